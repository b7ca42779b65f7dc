/-
  Texts of the walk, joined: what each one proves stands at its theorems.
-/
import Derived.Test.YtenfajgpdhgknaaGreatDoorS06HELD
import Derived.Lib.ItoaLen
import Derived.Test.YtenfajgpdhgknaaGreatDoorS11SMACH
import Derived.Test.YtenfajgpdhgknaaGreatDoorS09MACH
import Derived.Lib.Strings
set_option linter.unusedSimpArgs false
set_option linter.unusedVariables false
set_option linter.unnecessarySimpa false
namespace Go.Proofs.YtenfajgpdhgknaaGreatDoor
open Go Go.RowKit

/-- Bounds of a machine: how many cells, how many spans on each list, how long a cell's texts. -/
def MS.ok (S T : Nat) (m : MS) : Prop := m.s.length ≤ S ∧ m.r.length ≤ T ∧ m.w.length ≤ T ∧ ∀ c ∈ m.s, c.1.length ≤ 1048576 ∧ c.2.length ≤ 1048576
theorem MS.ok.mono {S T S' T' : Nat} {m : MS} (h : m.ok S T) (hS : S ≤ S') (hT : T ≤ T') : m.ok S' T' := ⟨by have := h.1; omega, by have := h.2.1; omega, by have := h.2.2.1; omega, h.2.2.2⟩
theorem getKey_mem {s : List Cell} {key : Str} : getKey s key = [] ∨ ∃ c ∈ s, c.1 = key ∧ c.2 = getKey s key := by
  induction s with
  | nil => exact .inl rfl
  | cons c s ih =>
    unfold getKey
    by_cases hc : c.1 = key
    · exact .inr ⟨c, by simp, hc, by simp [hc]⟩
    · rw [if_neg hc]
      rcases ih with h | ⟨c', h, h2⟩
      · exact .inl h
      · exact .inr ⟨c', by simp [h], h2⟩
theorem MS.ok.getKey {S T : Nat} {m : MS} (h : m.ok S T) (key : Str) : (getKey m.s key).length ≤ 1048576 := by
  rcases getKey_mem (s := m.s) (key := key) with h0 | ⟨c, hc, _, h2⟩
  · rw [h0]; simp
  · rw [← h2]; exact (h.2.2.2 c hc).2
theorem insertAt_mem {α : Type} {i : Nat} {x y : α} {l : List α} (h : y ∈ insertAt i x l) : y = x ∨ y ∈ l := by
  unfold insertAt at h
  simp only [List.mem_append, List.mem_cons] at h
  rcases h with h | h | h
  · exact .inr (List.mem_of_mem_take h)
  · exact .inl h
  · exact .inr (List.mem_of_mem_drop h)
theorem putKey_mem {s : List Cell} {key val : Str} {c : Cell} (h : c ∈ putKey s key val) : c ∈ s ∨ (c = (key, val) ∧ key.length ≤ 40 ∧ val.length ≤ 60) := by
  unfold putKey at h
  split at h
  · exact .inl h
  · rename_i hk
    simp only [Bool.or_eq_true, Bool.not_eq_true', decide_eq_true_eq, not_or, Bool.not_eq_false] at hk
    simp only at h
    split at h
    · exact .inl (List.mem_filter.1 h).1
    · rcases insertAt_mem h with h | h
      · refine .inr ⟨h, ?_, by omega⟩
        have := hk.1
        simp only [keyOk, Bool.and_eq_true, decide_eq_true_eq] at this
        exact this.2
      · exact .inl (List.mem_filter.1 h).1
theorem putKey_nil_len (s : List Cell) (key : Str) : (putKey s key []).length ≤ s.length := by
  unfold putKey
  simp only
  split
  · exact Nat.le_refl _
  · rw [if_pos trivial]; exact List.length_filter_le _ _
theorem MS.ok.look {S T : Nat} {m : MS} (h : m.ok S T) (key : Str) : (m.look key).1.ok S (T + 1) := by
  have := look_len m key
  exact ⟨by have := h.1; omega, by have := h.2.1; omega, by have := h.2.2.1; omega, h.2.2.2⟩
theorem MS.ok.lay {S T : Nat} {m : MS} (h : m.ok S T) (key val : Str) : (m.lay key val).ok (S + 1) (T + 1) := by
  have := lay_len m key val
  refine ⟨by have := h.1; omega, by have := h.2.1; omega, by have := h.2.2.1; omega, fun c hc => ?_⟩
  rcases putKey_mem (s := m.s) hc with hc | ⟨rfl, h1, h2⟩
  · exact h.2.2.2 c hc
  · exact ⟨by simp only; omega, by simp only; omega⟩
theorem MS.ok.layNil {S T : Nat} {m : MS} (h : m.ok S T) (key : Str) : (m.lay key []).ok S (T + 1) := by
  have h1 := lay_len m key []
  have h2 := putKey_nil_len m.s key
  refine ⟨Nat.le_trans h2 h.1, by have := h.2.1; omega, by have := h.2.2.1; omega, fun c hc => ?_⟩
  rcases putKey_mem (s := m.s) hc with hc | ⟨rfl, h1, h2⟩
  · exact h.2.2.2 c hc
  · exact ⟨by simp only; omega, by simp only; omega⟩
theorem num_lo (m : MS) (key : Str) : 0 ≤ (m.num key).2 ∧ (m.num key).2 ≤ 999 := numOf_lo _
theorem bump_lo (m : MS) (key : Str) : 0 ≤ (m.bump key).2 ∧ (m.bump key).2 ≤ 999 := by
  have h := num_lo m key
  unfold MS.bump
  split
  · exact ⟨by simp, by simp⟩
  · exact ⟨by simp only; omega, by simp only; omega⟩
theorem MS.ok.bump {S T : Nat} {m : MS} (h : m.ok S T) (key : Str) : (m.bump key).1.ok (S + 1) (T + 1) := by
  have h1 := h.look key
  unfold MS.bump
  split
  · exact h1.mono (by omega) (by omega)
  · have h2 := h.lay key (if 1 ≤ (m.num key).2 + 1 ∧ (m.num key).2 + 1 ≤ 999 then dec ((m.num key).2 + 1) else [])
    exact ⟨h2.1, h1.2.1, h2.2.2.1, h2.2.2.2⟩
theorem dec_len21 {n : Int} (h0 : -9223372036854775808 ≤ n) (h1 : n ≤ 9223372036854775807) : (dec n).length ≤ 21 := Lib.itoa_length_le n h0 h1
theorem keyNum_len {h t : Str} {n : Int} {a b : Nat} (h0 : -9223372036854775808 ≤ n) (h1 : n ≤ 9223372036854775807) (ha : h.length ≤ a) (hb : t.length ≤ b) : (keyNum h n t).length ≤ a + 21 + b := by
  have := dec_len21 h0 h1
  unfold keyNum
  simp only [List.length_append]
  omega
/-- A list of texts: how many, how long. -/
def okL (n k : Nat) (l : List Str) : Prop := l.length ≤ n ∧ ∀ j, j < l.length → k ≤ (l.getD j []).length ∧ (l.getD j []).length ≤ 1048576
theorem getD_mem {α : Type} {l : List α} {j : Nat} {d : α} (h : j < l.length) : l.getD j d ∈ l := by
  rw [List.getD_eq_getElem?_getD, List.getElem?_eq_getElem h]
  exact List.getElem_mem h
theorem keysUnder_ok {S T : Nat} {m : MS} (h : m.ok S T) (p : Str) : okL S p.length (keysUnder m.s p) := by
  refine ⟨?_, fun j hj => ?_⟩
  · unfold keysUnder
    rw [List.length_map]
    exact Nat.le_trans (List.length_filter_le _ _) h.1
  · have hm := getD_mem (d := ([] : Str)) hj
    unfold keysUnder at hm
    obtain ⟨c, hc, he⟩ := List.mem_map.1 hm
    obtain ⟨hc1, hc2⟩ := List.mem_filter.1 hc
    have e : (keysUnder m.s p).getD j [] = c.1 := he.symm
    rw [e]
    simp only [prefixB, Bool.and_eq_true, decide_eq_true_eq] at hc2
    exact ⟨hc2.1, (h.2.2.2 c hc1).1⟩
theorem MS.ok.under {S T : Nat} {m : MS} (h : m.ok S T) (p : Str) : (m.under p).1.ok S (T + 1) := by
  have := addSpan_len m.r (p ++ [42])
  refine ⟨h.1, ?_, by have := h.2.2.1; show m.w.length ≤ T + 1; omega, h.2.2.2⟩
  show (addSpan m.r (p ++ [42])).length ≤ T + 1
  have := h.2.1
  omega

/- names -/
def nameByte (c : UInt8) : Bool := (decide (97 ≤ c.toNat) && decide (c.toNat ≤ 122)) || (decide (48 ≤ c.toNat) && decide (c.toNat ≤ 57)) || decide (c.toNat = 46) || decide (c.toNat = 45)
def nameOk (s : Str) : Bool := s.all nameByte && decide (1 ≤ s.length) && decide (s.length ≤ 12)
theorem nameOk_bad {key : Str} {j : Nat} (h : j < key.length) (hb : nameByte (key.getD j 0) = false) : nameOk key = false := by
  have : key.all nameByte = false := by
    rw [List.all_eq_false]
    exact ⟨key.getD j 0, getD_mem h, by rw [hb]; simp⟩
  simp [nameOk, this]
theorem nameOk_good {key : Str} {j : Nat} (h : key.length ≤ j) (hb : ∀ i, i < j → i < key.length → nameByte (key.getD i 0) = true) : nameOk key = (decide (1 ≤ key.length) && decide (key.length ≤ 12)) := by
  have : key.all nameByte = true := by
    rw [List.all_eq_true]
    intro x hx
    obtain ⟨i, hi, rfl⟩ := List.getElem_of_mem hx
    have := hb i (by omega) hi
    rwa [List.getD_eq_getElem?_getD, List.getElem?_eq_getElem hi] at this
  simp [nameOk, this]

/- hexadecimal texts -/
def hexFig (x : Nat) : UInt8 := if x < 10 then UInt8.ofNat (48 + x) else UInt8.ofNat (87 + x)
def hexB : Str → Str
  | [] => []
  | c :: s => hexFig (c.toNat / 16) :: hexFig (c.toNat % 16) :: hexB s
def hexS (s : Str) : Str := if 20000 < s.length then [] else hexB s
def hexVal (c : UInt8) : Option Nat := if 48 ≤ c.toNat ∧ c.toNat ≤ 57 then some (c.toNat - 48) else if 97 ≤ c.toNat ∧ c.toNat ≤ 102 then some (c.toNat - 87) else none
def unhexL : Str → Option Str
  | [] => some []
  | [_] => none
  | a :: b :: t => match hexVal a, hexVal b, unhexL t with
    | some h, some l, some r => some (UInt8.ofNat (16 * h + l) :: r)
    | _, _, _ => none
def unhex (t : Str) : Str × Bool := if 40000 < t.length then ([], false) else match unhexL t with
  | some r => (r, true)
  | none => ([], false)
theorem hexB_len : ∀ s : Str, (hexB s).length = 2 * s.length
  | [] => rfl
  | c :: s => by simp only [hexB, List.length_cons, hexB_len s]; omega
theorem hexS_len (s : Str) : (hexS s).length ≤ 40000 := by
  unfold hexS
  split
  · simp
  · rw [hexB_len]; omega
theorem unhexL_len : ∀ (t r : Str), unhexL t = some r → 2 * r.length = t.length
  | [], r, h => by simp only [unhexL, Option.some.injEq] at h; subst h; rfl
  | [_], r, h => by simp [unhexL] at h
  | a :: b :: t, r, h => by
    unfold unhexL at h
    split at h
    · rename_i hh ll rr h1 h2 h3
      simp only [Option.some.injEq] at h
      subst h
      have := unhexL_len t rr h3
      simp only [List.length_cons]
      omega
    · cases h
theorem unhex_len (t : Str) : (unhex t).1.length ≤ 20000 := by
  unfold unhex
  split
  · simp
  · split
    · rename_i r h
      have := unhexL_len t r h
      simp only
      omega
    · simp
def messageOf (v : Str) : Str := match v with
  | [] => []
  | c :: t => if c = 45 then (unhex t).1 else []
theorem messageOf_len (v : Str) : (messageOf v).length ≤ 20000 := by
  unfold messageOf
  split
  · simp
  · split
    · exact unhex_len _
    · simp

/-- The keys behind their first signs. -/
def dropAcc (k : Nat) : List Str → List Str → List Str
  | [], out => out
  | x :: l, out => dropAcc k l (out ++ [x.drop k])
namespace MS
def message (m : MS) (key : Str) : MS × Str := match m.look key with | (m, v) => (m, messageOf v)
def fileOf (m : MS) (name : Str) : MS × Int := if nameOk name = true then m.num (([110, 47] : Str) ++ name) else (m, 0)
def makeName (m : MS) (name : Str) : MS × Int × Int :=
  if nameOk name = true then
    match m.fileOf name with
    | (m, id) => if id = 0 then
        match m.num ([99, 47, 102, 105, 108, 101] : Str) with
        | (m, n) => if 20 ≤ n then (m, 0, 3) else
          match m.bump ([99, 47, 102, 105, 108, 101] : Str) with
          | (m, id) => ((m.setNum (([110, 47] : Str) ++ name) id).setNum (keyNum ([105, 47] : Str) id ([47, 108] : Str)) 1, id, 0)
      else (m, 0, 1)
  else (m, 0, 4)
def linkName (m : MS) (from_ to_ : Str) : MS × Int :=
  if nameOk from_ = true then
    if nameOk to_ = true then
      match m.fileOf from_ with
      | (m, id) => if id = 0 then (m, 2) else
        match m.fileOf to_ with
        | (m, o) => if o = 0 then
            match m.num (keyNum ([105, 47] : Str) id ([47, 108] : Str)) with
            | (m, n) => if 4 ≤ n then (m, 3) else
              ((m.setNum (([110, 47] : Str) ++ to_) id).setNum (keyNum ([105, 47] : Str) id ([47, 108] : Str)) (n + 1), 0)
          else (m, 1)
    else (m, 4)
  else (m, 4)
/-- What wipe does with the keys that it finds. -/
def wipeL : List Str → MS → MS
  | [], m => m
  | k :: l, m => wipeL l (m.lay k [])
def wipe' (m : MS) (p : Str) : MS := match m.under p with | (m, l) => wipeL l m
def unlinkName (m : MS) (name : Str) : MS × Int :=
  if nameOk name = true then
    match m.fileOf name with
    | (m, id) => if id = 0 then (m, 2) else
      match (m.lay (([110, 47] : Str) ++ name) []).num (keyNum ([105, 47] : Str) id ([47, 108] : Str)) with
      | (m, n) => if 1 < n then (m.setNum (keyNum ([105, 47] : Str) id ([47, 108] : Str)) (n - 1), 0) else (m.wipe' (keyNum ([105, 47] : Str) id ([47] : Str)), 0)
  else (m, 4)
def renameName (m : MS) (from_ to_ : Str) : MS × Int :=
  if nameOk from_ = true then
    if nameOk to_ = true then
      match m.fileOf from_ with
      | (m, id) => if id = 0 then (m, 2) else
        match m.fileOf to_ with
        | (m, o) => if o = id then (m, 0) else
          if o = 0 then ((m.setNum (([110, 47] : Str) ++ to_) id).lay (([110, 47] : Str) ++ from_) [], 0) else
            match m.unlinkName to_ with
            | (m, _) => ((m.setNum (([110, 47] : Str) ++ to_) id).lay (([110, 47] : Str) ++ from_) [], 0)
    else (m, 4)
  else (m, 4)
def names (m : MS) : MS × List Str := match m.under ([110, 47] : Str) with | (m, l) => (m, dropAcc 2 l [])

/- files -/
def sizeOf (m : MS) (id : Int) : MS × Int := m.num (keyNum ([105, 47] : Str) id ([47, 115] : Str))
def block (m : MS) (id place : Int) : MS × Str := match m.look (keyNum (keyNum ([105, 47] : Str) id ([47, 98, 47] : Str)) place []) with | (m, v) => (m, (unhex v).1)

/- pipes -/
def makePipe (m : MS) : MS × Int × Int :=
  match m.num ([99, 47, 112, 105, 112, 101] : Str) with
  | (m, n) => if 8 ≤ n then (m, 0, 3) else
    match m.bump ([99, 47, 112, 105, 112, 101] : Str) with
    | (m, id) => (m.setNum (keyNum ([112, 47] : Str) id ([47, 111] : Str)) 1, id, 0)
def isPipe (m : MS) (id : Int) : MS × Bool := match m.num (keyNum ([112, 47] : Str) id ([47, 111] : Str)) with | (m, n) => (m, decide (n = 1))
def putPipe (m : MS) (id : Int) (text : Str) : MS × Int :=
  match m.isPipe id with
  | (m, b) => if b = true then
      if 20 < (text.length : Int) then (m, 4) else
      match m.num (keyNum ([112, 47] : Str) id ([47, 116] : Str)) with
      | (m, t) => match m.num (keyNum ([112, 47] : Str) id ([47, 104] : Str)) with
        | (m, h) => if 4 ≤ t - h then (m, 5) else if 999 ≤ t then (m, 3) else
          ((m.setNum (keyNum ([112, 47] : Str) id ([47, 116] : Str)) (t + 1)).lay (keyNum (keyNum ([112, 47] : Str) id ([47, 113, 47] : Str)) (t + 1) []) (([45] : Str) ++ hexS text), 0)
    else (m, 2)
def lenPipe (m : MS) (id : Int) : MS × Int := match m.num (keyNum ([112, 47] : Str) id ([47, 116] : Str)) with | (m, t) => match m.num (keyNum ([112, 47] : Str) id ([47, 104] : Str)) with | (m, h) => (m, t - h)
def takePipe (m : MS) (id : Int) : MS × Str × Int :=
  match m.isPipe id with
  | (m, b) => if b = true then
      match m.num (keyNum ([112, 47] : Str) id ([47, 104] : Str)) with
      | (m, h) => match m.num (keyNum ([112, 47] : Str) id ([47, 116] : Str)) with
        | (m, t) => if t = h then (m, [], 5) else
          match m.message (keyNum (keyNum ([112, 47] : Str) id ([47, 113, 47] : Str)) (h + 1) []) with
          | (m, x) => ((m.lay (keyNum (keyNum ([112, 47] : Str) id ([47, 113, 47] : Str)) (h + 1) []) []).setNum (keyNum ([112, 47] : Str) id ([47, 104] : Str)) (h + 1), x, 0)
    else (m, [], 2)

/- processes -/
def state (m : MS) (id : Int) : MS × Int := m.num (keyNum ([114, 47] : Str) id ([47, 115] : Str))
def spawn (m : MS) (parent : Int) : MS × Int × Int :=
  match m.num ([99, 47, 112, 114, 111, 99] : Str) with
  | (m, n) => if 12 ≤ n then (m, 0, 3) else
    match m.bump ([99, 47, 112, 114, 111, 99] : Str) with
    | (m, id) => ((m.setNum (keyNum ([114, 47] : Str) id ([47, 115] : Str)) 1).setNum (keyNum ([114, 47] : Str) id ([47, 112] : Str)) parent, id, 0)
def endProc (m : MS) (id n : Int) : MS × Int :=
  match m.state id with
  | (m, s) => if s = 1 then
      if 0 ≤ n ∧ n ≤ 100 then ((m.setNum (keyNum ([114, 47] : Str) id ([47, 115] : Str)) 2).setNum (keyNum ([114, 47] : Str) id ([47, 120] : Str)) (n + 1), 0) else (m, 4)
    else (m, 2)
def reap (m : MS) (parent id : Int) : MS × Int × Int :=
  match m.num (keyNum ([114, 47] : Str) id ([47, 112] : Str)) with
  | (m, own) => if own = 0 then (m, 0, 2) else if own = parent then
      match m.state id with
      | (m, s) => if s = 1 then (m, 0, 5) else if s = 2 then
          match m.num (keyNum ([114, 47] : Str) id ([47, 120] : Str)) with
          | (m, n) => (m.wipe' (keyNum ([114, 47] : Str) id ([47] : Str)), n - 1, 0)
        else (m, 0, 2)
    else (m, 0, 2)
def isKid (k : Str) : Bool := decide (5 ≤ k.length) && decide (k.drop (k.length - 2) = ([47, 112] : Str))
def kidsL (parent : Int) : List Str → MS → List Int → MS × List Int
  | [], m, out => (m, out)
  | k :: l, m, out => if isKid k = true then
      match m.num k with
      | (m, n) => if n = parent then kidsL parent l m (out ++ [numOf ((k.take (k.length - 2)).drop 2)]) else kidsL parent l m out
    else kidsL parent l m out
def kids (m : MS) (parent : Int) : MS × List Int := match m.under ([114, 47] : Str) with | (m, l) => kidsL parent l m []

/- signals -/
def send (m : MS) (to_ n : Int) : MS × Int :=
  match m.state to_ with
  | (m, s) => if s = 1 then
      if 1 ≤ n ∧ n ≤ 31 then
        match m.num (keyNum ([103, 47] : Str) to_ ([47, 116] : Str)) with
        | (m, t) => match m.num (keyNum ([103, 47] : Str) to_ ([47, 104] : Str)) with
          | (m, h) => if 4 ≤ t - h then (m, 5) else if 999 ≤ t then (m, 3) else
            ((m.setNum (keyNum ([103, 47] : Str) to_ ([47, 116] : Str)) (t + 1)).setNum (keyNum (keyNum ([103, 47] : Str) to_ ([47, 113, 47] : Str)) (t + 1) []) n, 0)
      else (m, 4)
    else (m, 2)
def takeSignal (m : MS) (id : Int) : MS × Int × Int :=
  match m.num (keyNum ([103, 47] : Str) id ([47, 104] : Str)) with
  | (m, h) => match m.num (keyNum ([103, 47] : Str) id ([47, 116] : Str)) with
    | (m, t) => if t = h then (m, 0, 5) else
      match m.num (keyNum (keyNum ([103, 47] : Str) id ([47, 113, 47] : Str)) (h + 1) []) with
      | (m, n) => ((m.lay (keyNum (keyNum ([103, 47] : Str) id ([47, 113, 47] : Str)) (h + 1) []) []).setNum (keyNum ([103, 47] : Str) id ([47, 104] : Str)) (h + 1), n, 0)
def setTimer (m : MS) (id at_ : Int) : MS × Int := if 0 ≤ at_ ∧ at_ ≤ 999 then (m.setNum (keyNum ([116, 47] : Str) id []) at_, 0) else (m, 4)
def tickL (clock : Int) : List Str → MS → Int → MS × Int
  | [], m, k => (m, k)
  | x :: l, m, k => match m.num x with
    | (m, n) => if clock < n then tickL clock l m k else
      match (m.lay x []).send (numOf (x.drop 2)) 14 with
      | (m, _) => tickL clock l m (k + 1)
def tick (m : MS) (n : Int) : MS × Int × Int :=
  if n < 1 then (m, 0, 4) else
    match m.num ([99, 47, 99, 108, 111, 99, 107] : Str) with
    | (m, c) => if 999 - c < n then (m, 0, 3) else
      match (m.setNum ([99, 47, 99, 108, 111, 99, 107] : Str) (c + n)).under ([116, 47] : Str) with
      | (m, l) => match tickL (c + n) l m 0 with
        | (m, k) => (m, k, 0)

/- pages -/
def storePage (m : MS) (id page : Int) (text : Str) : MS × Int :=
  if 0 ≤ page ∧ page ≤ 3 then
    if 20 < (text.length : Int) then (m, 4) else
      (m.lay (keyNum (keyNum ([109, 47] : Str) id ([47] : Str)) page []) (if text = [] then [] else ([45] : Str) ++ hexS text), 0)
  else (m, 4)
def loadPage (m : MS) (id page : Int) : MS × Str × Int :=
  if 0 ≤ page ∧ page ≤ 3 then
    match m.message (keyNum (keyNum ([109, 47] : Str) id ([47] : Str)) page []) with
    | (m, x) => (m, x, 0)
  else (m, [], 4)
def forkL (k : Nat) (to_ : Int) : List Str → MS → MS
  | [], m => m
  | x :: l, m => match m.look x with
    | (m, v) => forkL k to_ l (m.lay (keyNum ([109, 47] : Str) to_ ([47] : Str) ++ x.drop k) v)
def forkPages (m : MS) (from_ to_ : Int) : MS := match m.under (keyNum ([109, 47] : Str) from_ ([47] : Str)) with | (m, l) => forkL (keyNum ([109, 47] : Str) from_ ([47] : Str)).length to_ l m
def dropPages (m : MS) (id : Int) : MS := m.wipe' (keyNum ([109, 47] : Str) id ([47] : Str))

/- output -/
def putOut (m : MS) (text : Str) : MS × Int :=
  if 1 ≤ (text.length : Int) ∧ (text.length : Int) ≤ 20 then
    match m.num ([100, 47, 110] : Str) with
    | (m, n) => if 40 ≤ n then (m, 3) else ((m.setNum ([100, 47, 110] : Str) (n + 1)).lay (keyNum ([100, 47] : Str) (n + 1) []) (([45] : Str) ++ hexS text), 0)
  else (m, 4)
end MS
end Go.Proofs.YtenfajgpdhgknaaGreatDoor

set_option linter.unusedSimpArgs false
set_option linter.unusedVariables false
set_option linter.unnecessarySimpa false
namespace Go.Proofs.YtenfajgpdhgknaaGreatDoor
open Go Go.RowKit

/-- Where the three lists of a machine lie. -/
structure MA where
  a0 : Option Addr
  c0 : Nat
  a1 : Option Addr
  c1 : Nat
  a2 : Option Addr
  c2 : Nat
@[reducible] def rC (a : Option Addr) (c : Nat) (s : List Cell) : Res := .row (.slice a s.length c) 113 2 s.length (s.flatMap encC)
@[reducible] def rS (a : Option Addr) (c : Nat) (l : List Str) : Res := .row (.slice a l.length c) 9 1 l.length (l.map str)
@[reducible] def rI (a : Option Addr) (c : Nat) (l : List Int) : Res := .row (.slice a l.length c) 3 1 l.length (l.map (Value.int .i64))
@[reducible] def mv (x : MA) (m : MS) : Value := .agg #[.slice x.a0 m.s.length x.c0, .slice x.a1 m.r.length x.c1, .slice x.a2 m.w.length x.c2]
@[reducible] def mr (x : MA) (m : MS) : List Res := [rC x.a0 x.c0 m.s, rS x.a1 x.c1 m.r, rS x.a2 x.c2 m.w]
@[reducible] def mb (p : Nat) (x : MA) (m : MS) : Res := bk p 32 [.slice x.a0 m.s.length x.c0, .slice x.a1 m.r.length x.c1, .slice x.a2 m.w.length x.c2]
@[reducible] def seesM (w : World) (x : MA) (m : MS) : Prop := Sees w (.slice x.a0 m.s.length x.c0) 2 m.s.length (m.s.flatMap encC) ∧ Sees w (.slice x.a1 m.r.length x.c1) 1 m.r.length (m.r.map str) ∧ Sees w (.slice x.a2 m.w.length x.c2) 1 m.w.length (m.w.map str)

theorem Ct.weak {P : Program} {f : FuncId} {args : List Value} {A : List Res} {Pre Pre' : World → Prop} {Post Post' : Value → List Res → Prop} (h : Ct P f args A Pre Post) (hp : ∀ w, Pre' w → Pre w) (hq : ∀ v A', Post v A' → Post' v A') : Ct P f args A Pre' Post' :=
  fun w hA hw => (h w hA (hp w hw)).mono fun _ _ ⟨v, A', he, hv, hs⟩ => ⟨v, A', he, hq v A' hv, hs⟩

theorem Ct.introL {P : Program} {n : Nat} {f : FuncId} {fn : Func} {c : Code} {args : List Value} {A : List Res} {Pre : World → Prop} {Post : Value → List Res → Prop}
    (hf : P.funcs[f]? = some fn) (hb : fn.body = some c) (hn : fn.ntmps = n) (hle : args.length ≤ n)
    (h : ∀ w0, Pre w0 → (∀ i ∈ idsOf A, GB ≤ i) → JC P (bodyPost P fn (Done w0 (idsOf A) Post)) n w0 (idsOf A) A c (argEnv args)) : Ct P f args A Pre Post := fun w hA hpre => by
  refine calls_of_wp hf hb ?_
  rw [hn, act_args n args hle]
  exact h w hpre hA.low w (St.start hA)
theorem St.hex {w0 w : World} {D : List Nat} {L : List Res} (hw : St w0 D L w) (hlow : ∀ i ∈ D, GB ≤ i) (h : HexOk w0) : HexOk w :=
  h.keep (hw.keep _ h.lt fun hD => by have := hlow _ hD; have := hexLow; omega)

/-- A nil slice is a row that nobody owns a block for. -/
theorem St.nilRow {w0 w : World} {D : List Nat} {L : List Res} (hw : St w0 D L w) (t k : Nat) : St w0 D (.row (.slice none 0 0) t k 0 [] :: L) w := by
  have e : idsOf (.row (.slice none 0 0) t k 0 [] :: L) = idsOf L := by rw [idsOf_cons]; simp [Res.ids, Value.ownBlock]
  refine ⟨⟨fun r hr => ?_, by rw [e]; exact hw.nodup, by rw [e]; exact hw.low, hw.room, hw.glob⟩, hw.os, hw.tape, hw.output, hw.size, by rw [e]; exact hw.fresh, hw.keep⟩
  simp only [List.mem_cons] at hr
  rcases hr with rfl | hr
  · exact ⟨by simp, .inl ⟨rfl, rfl⟩⟩
  · exact hw.holds r hr
theorem JL.nilRow {P : Program} {ops : Array Oper} {Q : Exit → Act → World → Prop} {n : Nat} {w0 : World} {D : List Nat} {L : List Res} {e : Env} {l : List Oper} (t k : Nat) (h : JL P ops Q n w0 D (.row (.slice none 0 0) t k 0 [] :: L) l e) : JL P ops Q n w0 D L l e := fun w hw => h w (hw.nilRow t k)
theorem JC.nilRow {P : Program} {Q : Exit → Act → World → Prop} {n : Nat} {w0 : World} {D : List Nat} {L : List Res} {e : Env} {c : Code} (t k : Nat) (h : JC P Q n w0 D (.row (.slice none 0 0) t k 0 [] :: L) c e) : JC P Q n w0 D L c e := fun w hw => h w (hw.nilRow t k)

theorem JQ.nilRow {Q : Exit → Act → World → Prop} {x : Exit} {n : Nat} {w0 : World} {D : List Nat} {L : List Res} {e : Env} (t k : Nat) (h : JQ Q x n w0 D (.row (.slice none 0 0) t k 0 [] :: L) e) : JQ Q x n w0 D L e := fun w hw => h w (hw.nilRow t k)
theorem JA.nilRow {P : Program} {ops : Array Oper} {Q : Exit → Act → World → Prop} {n : Nat} {w0 : World} {D : List Nat} {L M : List Res} {e : Env} {z fuel : Nat} {listed : Array Bool} (t k : Nat) (h : JA P ops Q n w0 D M z fuel listed (.row (.slice none 0 0) t k 0 [] :: L) e) : JA P ops Q n w0 D M z fuel listed L e := fun w hw hq => h w (hw.nilRow t k) hq

section
variable {P : Program} {ops : Array Oper} {Q : Exit → Act → World → Prop} {n : Nat} {w0 : World} {D : List Nat} {L M : List Res} {e : Env} {z fuel : Nat} {listed : Array Bool}
/-- A guard that was itself not asked. -/
theorem JL.guardOffU {o : Oper} {rest : List Oper} {j : Nat} {b : Bool} {t : Tmp} (hg : o.guard = some (j, b)) (hj : (ops[j]?).bind (·.dst) = some t) (ht : Nat.blt t n = true) (hv : e t = undef)
    (h : JL P ops Q n w0 D L rest (updO e o.dst undef)) : JL P ops Q n w0 D L (o :: rest) e := fun w hw => by
  have hlt : t < n := (Nat.blt_eq (x := t) (y := n)) ▸ ht
  have hy : yielded ops (act n e).tmps j = none := by simp [yielded, hj, act, hlt, hv, undef]
  refine wpList_step fun K hK => ?_
  rw [if_neg (by simp [Region.wanted, hg, hy]), act_put]
  exact hK _ _ (h w hw)
theorem JA.takeOffU (i : Nat) {oi : Oper} {j : Nat} {b : Bool} {t : Tmp} (hi : ops[i]? = some oi) (hs : Region.noSelect ops = true) (hQ : NP Q) (hf : Region.free .any ops listed i = true) (hr : (Region.ready .any ops listed).contains i = true)
    (hg : oi.guard = some (j, b)) (hj : (ops[j]?).bind (·.dst) = some t) (ht : Nat.blt t n = true) (hv : e t = undef) (h : JA P ops Q n w0 D M z fuel (listed.setIfInBounds i true) L (updO e oi.dst undef)) :
    JA P ops Q n w0 D M z (fuel + 1) listed L e := fun w hw hq => by
  have hlt : t < n := (Nat.blt_eq (x := t) (y := n)) ▸ ht
  have hyy : yielded ops (act n e).tmps j = none := by simp [yielded, hj, act, hlt, hv, undef]
  exact anyC.firstP hi hs hQ fuel listed (act n e) w (Region.free_spec hi hf) (by simpa using hr) (.inr ⟨by simp [Region.wanted, hg, hyy], rfl⟩) (by rw [act_put]; exact h w hw hq)
end

theorem N_look (p : Nat) (x : MA) (m : MS) {S T : Nat} (hk : m.ok S T) (hS : S ≤ 1000000000) (hT : T ≤ 1000000000) (key : Str) :
    Ct Tryz.prog 264 [.pointer (some ⟨p, 0, none⟩), str key] (mb p x m :: mr x m) (fun _ => True) (fun v A' => ∃ x' m' u, m.look key = (m', u) ∧ m'.ok S (T + 1) ∧ u.length ≤ 1048576 ∧ v = str u ∧ A' = mb p x' m' :: mr x' m') :=
  (C_look p x.a0 x.a1 x.a2 x.c0 x.c1 x.c2 m key (by have := hk.1; omega) (by have := hk.2.1; omega) (by have := hk.2.2.1; omega)).weak (fun _ h => h) fun v A' ⟨x0, y0, x1, y1, x2, y2, hv, hA⟩ => ⟨⟨x0, y0, x1, y1, x2, y2⟩, (m.look key).1, (m.look key).2, rfl, hk.look key, hk.getKey key, hv, hA⟩

theorem N_lay (p : Nat) (x : MA) (m : MS) {S T : Nat} (hk : m.ok S T) (hS : S ≤ 1000000000) (hT : T ≤ 1000000000) (key : Str) (val : Str) (hkey : key.length ≤ 1000000000000) :
    Ct Tryz.prog 240 [.pointer (some ⟨p, 0, none⟩), str key, str val] (mb p x m :: mr x m) (fun _ => True) (fun v A' => ∃ x' m', m.lay key val = m' ∧ m'.ok (S + 1) (T + 1) ∧ v = .tuple #[] ∧ A' = mb p x' m' :: mr x' m') :=
  (C_lay p x.a0 x.a1 x.a2 x.c0 x.c1 x.c2 m key val (by have := hk.1; omega) (by have := hk.2.1; omega) (by have := hk.2.2.1; omega) hkey).weak (fun _ h => h) fun v A' ⟨x0, y0, x1, y1, x2, y2, hv, hA⟩ => ⟨⟨x0, y0, x1, y1, x2, y2⟩, m.lay key val, rfl, hk.lay key val, hv, hA⟩

theorem N_layNil (p : Nat) (x : MA) (m : MS) {S T : Nat} (hk : m.ok S T) (hS : S ≤ 1000000000) (hT : T ≤ 1000000000) (key : Str) (hkey : key.length ≤ 1000000000000) :
    Ct Tryz.prog 240 [.pointer (some ⟨p, 0, none⟩), str key, str []] (mb p x m :: mr x m) (fun _ => True) (fun v A' => ∃ x' m', m.lay key [] = m' ∧ m'.ok S (T + 1) ∧ v = .tuple #[] ∧ A' = mb p x' m' :: mr x' m') :=
  (C_lay p x.a0 x.a1 x.a2 x.c0 x.c1 x.c2 m key [] (by have := hk.1; omega) (by have := hk.2.1; omega) (by have := hk.2.2.1; omega) hkey).weak (fun _ h => h) fun v A' ⟨x0, y0, x1, y1, x2, y2, hv, hA⟩ => ⟨⟨x0, y0, x1, y1, x2, y2⟩, m.lay key [], rfl, hk.layNil key, hv, hA⟩

theorem N_num (p : Nat) (x : MA) (m : MS) {S T : Nat} (hk : m.ok S T) (hS : S ≤ 1000000000) (hT : T ≤ 1000000000) (key : Str) :
    Ct Tryz.prog 170 [.pointer (some ⟨p, 0, none⟩), str key] (mb p x m :: mr x m) (fun _ => True) (fun v A' => ∃ x' m' n, m.num key = (m', n) ∧ m'.ok S (T + 1) ∧ (0 ≤ n ∧ n ≤ 999) ∧ v = .int .i64 n ∧ A' = mb p x' m' :: mr x' m') :=
  (C_num p x.a0 x.a1 x.a2 x.c0 x.c1 x.c2 m key (by have := hk.1; omega) (by have := hk.2.1; omega) (by have := hk.2.2.1; omega) (Nat.le_trans (hk.getKey key) (by decide))).weak (fun _ h => h) fun v A' ⟨x0, y0, x1, y1, x2, y2, hv, hA⟩ => ⟨⟨x0, y0, x1, y1, x2, y2⟩, (m.num key).1, (m.num key).2, rfl, hk.look key, numOf_lo _, hv, hA⟩

theorem N_setNum (p : Nat) (x : MA) (m : MS) {S T : Nat} (hk : m.ok S T) (hS : S ≤ 1000000000) (hT : T ≤ 1000000000) (key : Str) (n : Int) (hkey : key.length ≤ 1000000000000) (hn : -9223372036854775808 ≤ n ∧ n ≤ 9223372036854775807) :
    Ct Tryz.prog 241 [.pointer (some ⟨p, 0, none⟩), str key, .int .i64 n] (mb p x m :: mr x m) (fun _ => True) (fun v A' => ∃ x' m', m.setNum key n = m' ∧ m'.ok (S + 1) (T + 1) ∧ v = .tuple #[] ∧ A' = mb p x' m' :: mr x' m') :=
  (C_setNum p x.a0 x.a1 x.a2 x.c0 x.c1 x.c2 m key n (by have := hk.1; omega) (by have := hk.2.1; omega) (by have := hk.2.2.1; omega) hkey hn.1 hn.2).weak (fun _ h => h) fun v A' ⟨x0, y0, x1, y1, x2, y2, hv, hA⟩ => ⟨⟨x0, y0, x1, y1, x2, y2⟩, m.setNum key n, rfl, hk.lay key _, hv, hA⟩

theorem N_bump (p : Nat) (x : MA) (m : MS) {S T : Nat} (hk : m.ok S T) (hS : S ≤ 1000000000) (hT : T ≤ 1000000000) (key : Str) (hkey : key.length ≤ 1000000000000) :
    Ct Tryz.prog 252 [.pointer (some ⟨p, 0, none⟩), str key] (mb p x m :: mr x m) (fun _ => True) (fun v A' => ∃ x' m' n, m.bump key = (m', n) ∧ m'.ok (S + 1) (T + 1) ∧ (0 ≤ n ∧ n ≤ 999) ∧ v = .int .i64 n ∧ A' = mb p x' m' :: mr x' m') :=
  (C_bump p x.a0 x.a1 x.a2 x.c0 x.c1 x.c2 m key (by have := hk.1; omega) (by have := hk.2.1; omega) (by have := hk.2.2.1; omega) (Nat.le_trans (hk.getKey key) (by decide)) hkey).weak (fun _ h => h) fun v A' ⟨x0, y0, x1, y1, x2, y2, hv, hA⟩ => ⟨⟨x0, y0, x1, y1, x2, y2⟩, (m.bump key).1, (m.bump key).2, rfl, hk.bump key, (bump_lo m key), hv, hA⟩

theorem N_clone (x : MA) (m : MS) {S T : Nat} (hk : m.ok S T) (hS : S ≤ 1000000000) (hT : T ≤ 1000000000) :
    Ct Tryz.prog 127 [mv x m] ([]) (fun w => seesM w x m) (fun v A' => ∃ x' m', m = m' ∧ m'.ok S T ∧ v = mv x' m' ∧ A' = mr x' m') :=
  (C_cloneMach x.a0 x.a1 x.a2 x.c0 x.c1 x.c2 m (by have := hk.1; omega) (by have := hk.2.1; omega) (by have := hk.2.2.1; omega)).weak (fun _ h => h) fun v A' ⟨x0, y0, x1, y1, x2, y2, hv, hA⟩ => ⟨⟨x0, y0, x1, y1, x2, y2⟩, m, rfl, hk, hv, hA⟩

theorem N_sLook (x : MA) (m : MS) {S T : Nat} (hk : m.ok S T) (hS : S ≤ 1000000000) (hT : T ≤ 1000000000) (key : Str) :
    Ct Tryz.prog 230 [mv x m, str key] (mr x m) (fun _ => True) (fun v A' => ∃ x' m' u, m.look key = (m', u) ∧ m'.ok S (T + 1) ∧ u.length ≤ 1048576 ∧ v = .tuple #[mv x' m', str u] ∧ A' = mr x' m') :=
  (C_sLook x.a0 x.a1 x.a2 x.c0 x.c1 x.c2 m key (by have := hk.1; omega) (by have := hk.2.1; omega) (by have := hk.2.2.1; omega)).weak (fun _ h => h) fun v A' ⟨x0, y0, x1, y1, x2, y2, hv, hA⟩ => ⟨⟨x0, y0, x1, y1, x2, y2⟩, (m.look key).1, (m.look key).2, rfl, hk.look key, hk.getKey key, hv, hA⟩

theorem N_sLay (x : MA) (m : MS) {S T : Nat} (hk : m.ok S T) (hS : S ≤ 1000000000) (hT : T ≤ 1000000000) (key : Str) (val : Str) (hkey : key.length ≤ 1000000000000) :
    Ct Tryz.prog 232 [mv x m, str key, str val] (mr x m) (fun _ => True) (fun v A' => ∃ x' m', m.lay key val = m' ∧ m'.ok (S + 1) (T + 1) ∧ v = mv x' m' ∧ A' = mr x' m') :=
  (C_sLay x.a0 x.a1 x.a2 x.c0 x.c1 x.c2 m key val (by have := hk.1; omega) (by have := hk.2.1; omega) (by have := hk.2.2.1; omega) hkey).weak (fun _ h => h) fun v A' ⟨x0, y0, x1, y1, x2, y2, hv, hA⟩ => ⟨⟨x0, y0, x1, y1, x2, y2⟩, m.lay key val, rfl, hk.lay key val, hv, hA⟩

theorem N_sLayNil (x : MA) (m : MS) {S T : Nat} (hk : m.ok S T) (hS : S ≤ 1000000000) (hT : T ≤ 1000000000) (key : Str) (hkey : key.length ≤ 1000000000000) :
    Ct Tryz.prog 232 [mv x m, str key, str []] (mr x m) (fun _ => True) (fun v A' => ∃ x' m', m.lay key [] = m' ∧ m'.ok S (T + 1) ∧ v = mv x' m' ∧ A' = mr x' m') :=
  (C_sLay x.a0 x.a1 x.a2 x.c0 x.c1 x.c2 m key [] (by have := hk.1; omega) (by have := hk.2.1; omega) (by have := hk.2.2.1; omega) hkey).weak (fun _ h => h) fun v A' ⟨x0, y0, x1, y1, x2, y2, hv, hA⟩ => ⟨⟨x0, y0, x1, y1, x2, y2⟩, m.lay key [], rfl, hk.layNil key, hv, hA⟩

theorem N_sBump (x : MA) (m : MS) {S T : Nat} (hk : m.ok S T) (hS : S ≤ 1000000000) (hT : T ≤ 1000000000) (key : Str) (hkey : key.length ≤ 1000000000000) :
    Ct Tryz.prog 255 [mv x m, str key] (mr x m) (fun _ => True) (fun v A' => ∃ x' m' n, m.bump key = (m', n) ∧ m'.ok (S + 1) (T + 1) ∧ (0 ≤ n ∧ n ≤ 999) ∧ v = .tuple #[mv x' m', .int .i64 n] ∧ A' = mr x' m') :=
  (C_sBump x.a0 x.a1 x.a2 x.c0 x.c1 x.c2 m key (by have := hk.1; omega) (by have := hk.2.1; omega) (by have := hk.2.2.1; omega) (Nat.le_trans (hk.getKey key) (by decide)) hkey).weak (fun _ h => h) fun v A' ⟨x0, y0, x1, y1, x2, y2, hv, hA⟩ => ⟨⟨x0, y0, x1, y1, x2, y2⟩, (m.bump key).1, (m.bump key).2, rfl, hk.bump key, (bump_lo m key), hv, hA⟩

theorem N_copy (x : MA) (m : MS) {S T : Nat} (hk : m.ok S T) (hS : S ≤ 1000000000) (hT : T ≤ 1000000000) :
    Ct Tryz.prog 124 [mv x m] ([]) (fun w => seesM w x m) (fun v A' => ∃ x' m', m = m' ∧ m'.ok S T ∧ v = mv x' m' ∧ A' = mr x' m') :=
  (C_copy x.a0 x.a1 x.a2 x.c0 x.c1 x.c2 m (by have := hk.1; omega) (by have := hk.2.1; omega) (by have := hk.2.2.1; omega)).weak (fun _ h => h) fun v A' ⟨x0, y0, x1, y1, x2, y2, hv, hA⟩ => ⟨⟨x0, y0, x1, y1, x2, y2⟩, m, rfl, hk, hv, hA⟩

end Go.Proofs.YtenfajgpdhgknaaGreatDoor

set_option linter.unusedSimpArgs false
set_option linter.unusedVariables false
set_option linter.unnecessarySimpa false
namespace Go.Proofs.YtenfajgpdhgknaaGreatDoor
open Go Go.RowKit

theorem hasPrefix_eq (s p : Str) : Lib.hasPrefix s p = prefixB s p := by
  unfold Lib.hasPrefix prefixB
  rw [Bool.eq_iff_iff]
  simp only [List.isPrefixOf_iff_prefix, Bool.and_eq_true, decide_eq_true_eq]
  constructor
  · rintro ⟨t, rfl⟩; simp
  · rintro ⟨h1, h2⟩; exact ⟨s.drop p.length, (congrArg (fun q => q ++ s.drop p.length) h2).symm.trans (List.take_append_drop _ _)⟩
def suffixB (s p : Str) : Bool := decide (p.length ≤ s.length) && decide (s.drop (s.length - p.length) = p)
theorem hasSuffix_eq (s p : Str) : Lib.hasSuffix s p = suffixB s p := by
  unfold Lib.hasSuffix suffixB
  rw [Bool.eq_iff_iff]
  simp only [List.isSuffixOf_iff_suffix, Bool.and_eq_true, decide_eq_true_eq]
  constructor
  · rintro ⟨t, rfl⟩; simp
  · rintro ⟨h1, h2⟩; exact ⟨s.take (s.length - p.length), (congrArg (fun q => s.take (s.length - p.length) ++ q) h2).symm.trans (List.take_append_drop _ _)⟩
def cutPre (s p : Str) : Str × Bool := if prefixB s p = true then (s.drop p.length, true) else (s, false)
def cutSuf (s p : Str) : Str × Bool := if suffixB s p = true then (s.take (s.length - p.length), true) else (s, false)
theorem cutPre_lib (s p : Str) : cutPre s p = (Lib.trimPrefix s p, Lib.hasPrefix s p) := by
  unfold cutPre Lib.trimPrefix
  rw [hasPrefix_eq]
  cases prefixB s p <;> rfl
theorem cutSuf_lib (s p : Str) : cutSuf s p = (Lib.trimSuffix s p, Lib.hasSuffix s p) := by
  unfold cutSuf Lib.trimSuffix
  rw [hasSuffix_eq]
  cases suffixB s p <;> rfl
theorem cutPre_len (s p : Str) : (cutPre s p).1.length ≤ s.length := by unfold cutPre; split <;> simp
theorem cutSuf_len (s p : Str) : (cutSuf s p).1.length ≤ s.length := by unfold cutSuf; split <;> simp [List.length_take]

theorem N_hasPrefix (s p : Str) : Ct Tryz.prog 304 [str s, str p] [] (fun _ => True) (fun v A' => ∃ b, prefixB s p = b ∧ v = .bool b ∧ A' = []) := fun w hA _ => by
  refine (Tryz.strings_HasPrefix ⟨s.toArray⟩ ⟨p.toArray⟩ w).mono fun e w' h => ?_
  obtain ⟨rfl, rfl⟩ := h
  exact ⟨_, [], rfl, ⟨_, rfl, by simp only [← hasPrefix_eq], rfl⟩, hA.below (Below.refl _ _)⟩
theorem N_cutPrefix (s p : Str) : Ct Tryz.prog 273 [str s, str p] [] (fun _ => True) (fun v A' => ∃ u b, cutPre s p = (u, b) ∧ u.length ≤ s.length ∧ v = .tuple #[str u, .bool b] ∧ A' = []) := fun w hA _ => by
  refine (Tryz.strings_CutPrefix ⟨s.toArray⟩ ⟨p.toArray⟩ w).mono fun e w' h => ?_
  obtain ⟨rfl, rfl⟩ := h
  exact ⟨_, [], rfl, ⟨_, _, cutPre_lib s p, by have := cutPre_len s p; rw [cutPre_lib] at this; exact this, rfl, rfl⟩, hA.below (Below.refl _ _)⟩
theorem N_cutSuffix (s p : Str) (hs : s.length ≤ 1000000000000) : Ct Tryz.prog 268 [str s, str p] [] (fun _ => True) (fun v A' => ∃ u b, cutSuf s p = (u, b) ∧ u.length ≤ s.length ∧ v = .tuple #[str u, .bool b] ∧ A' = []) := fun w hA _ => by
  refine (Tryz.strings_CutSuffix ⟨s.toArray⟩ ⟨p.toArray⟩ w (by rw [size_mk]; omega)).mono fun e w' h => ?_
  obtain ⟨rfl, rfl⟩ := h
  exact ⟨_, [], rfl, ⟨_, _, cutSuf_lib s p, by have := cutSuf_len s p; rw [cutSuf_lib] at this; exact this, rfl, rfl⟩, hA.below (Below.refl _ _)⟩
end Go.Proofs.YtenfajgpdhgknaaGreatDoor

set_option linter.unusedSimpArgs false
set_option linter.unusedVariables false
set_option linter.unnecessarySimpa false
namespace Go.Proofs.YtenfajgpdhgknaaGreatDoor
open Go Go.RowKit
attribute [local irreducible] JL JC JQ JO LO PO JA JX Ct

theorem tmod10 (k : Nat) : (-((k : Nat) : Int)).tmod 10 = -((k % 10 : Nat) : Int) := by
  rw [Int.neg_tmod]; rfl
theorem tdiv10 (k : Nat) : (-((k : Nat) : Int)).tdiv 10 = -((k / 10 : Nat) : Int) := by
  rw [Int.neg_tdiv]; rfl
theorem dec_neg {k : Nat} (h : 0 < k) : dec (-((k : Nat) : Int)) = 45 :: mtAcc k [] := by
  unfold dec Lib.itoa
  rw [if_pos (by omega), show (-((k : Nat) : Int)).natAbs = k by omega, mtAcc_dec k k h (Nat.le_refl _)]

theorem C_sDecM (k : Nat) (h0 : 0 < k) (h1 : k ≤ 9223372036854775808) :
    Ct Tryz.prog 276 [.int .i64 (-((k : Nat) : Int))] [] (fun _ => True) (fun v A' => v = str (dec (-((k : Nat) : Int))) ∧ A' = []) := by
  refine Ct.intro Tryz.func276 rfl Tryz.ntmps276 (Nat.le_of_ble_eq_true rfl) fun w0 hpre => ?_
  refine JC.seq ?_
  refine JC.region ?_
  refine JL.pure rfl (PO.assign (v := str []) rfl) ?_
  refine JL.nil ?_
  refine JQ.seq ?_
  refine JC.seq ?_
  refine JC.seq ?_
  refine JC.region ?_
  refine JL.pure rfl (PO.move (v := .int .i64 (-((k : Nat) : Int))) rfl) ?_
  refine JL.pure rfl (PO.eqlI rfl rfl) ?_
  refine JL.nil ?_
  refine JQ.seq ?_
  by_cases h_1 : (-((k : Nat) : Int)) = 0
  · skip
    exfalso; omega
  · skip
    refine JC.condF (congrArg Value.bool (decide_eq_false h_1)) ?_
    refine JC.skip ?_
    refine JQ.seq ?_
    refine JC.seq ?_
    refine JC.region ?_
    refine JL.pure rfl (PO.move (v := .int .i64 (-((k : Nat) : Int))) rfl) ?_
    refine JL.pure rfl (PO.lss rfl rfl) ?_
    refine JL.pure rfl (PO.assign (v := .bool (decide ((-((k : Nat) : Int)) < 0))) rfl) ?_
    refine JL.nil ?_
    refine JQ.seq ?_
    refine JC.seq ?_
    refine JC.region ?_
    refine JL.pure rfl (PO.assign (v := str []) rfl) ?_
    refine JL.nil ?_
    refine JQ.seq ?_
    refine JC.seq ?_
    refine JC.block ?_
    refine JC.loop (fun k_ e_ L_ => ∃ k1 : Nat, ∃ o_ : Str, (k1 ≤ k) ∧ (o_.length = 0 ∨ o_.length + k1 ≤ k / 2 + 1) ∧ (mtAcc k1 o_ = mtAcc k []) ∧ e_ 0 = .int .i64 (-((k1 : Nat) : Int)) ∧ e_ 2 = str [] ∧ e_ 3 = .bool (decide ((-((k : Nat) : Int)) < 0)) ∧ e_ 4 = str o_ ∧ L_ = [] ∧ k_ = k1 + 1) _ ⟨k, [], by omega, (by simp), rfl, rfl, rfl, rfl, rfl, rfl, rfl⟩ ?_
    rintro _ e_2 _ ⟨k1, o_, hk, hl, hR, he_3, he_4, he_5, he_6, rfl, rfl⟩
    refine JC.seq ?_
    refine JC.seq ?_
    refine JC.region ?_
    refine JL.pure rfl (PO.move (v := .int .i64 (-((k1 : Nat) : Int))) he_3) ?_
    refine JL.pure rfl (PO.neqI rfl rfl) ?_
    refine JL.nil ?_
    refine JQ.seq ?_
    by_cases h_7 : (-((k1 : Nat) : Int)) = 0
    · skip
      refine JC.condF (congrArg Value.bool (congrArg Bool.not (decide_eq_true h_7))) ?_
      refine JC.exit ?_
      refine JQ.thenExit ?_
      refine JQ.thenExit ?_
      refine JQ.blockE ?_
      refine JQ.seq ?_
      refine JC.seq ?_
      refine JC.seq ?_
      refine JC.region ?_
      refine JL.pure rfl (PO.move (v := .bool (decide ((-((k : Nat) : Int)) < 0))) he_5) ?_
      refine JL.nil ?_
      refine JQ.seq ?_
      by_cases h_8 : (-((k : Nat) : Int)) < 0
      · skip
        refine JC.condT (congrArg Value.bool (decide_eq_true h_8)) ?_
        refine JC.seq ?_
        refine JC.region ?_
        refine JL.pure rfl (PO.move (v := str o_) he_6) ?_
        refine JL.pure rfl (PO.addS rfl rfl (by (try simp only [List.length_append, List.length_cons, List.length_nil, List.length_drop, List.length_take]); omega)) ?_
        refine JL.pure rfl (PO.assign (v := str ([45] ++ o_)) rfl) ?_
        refine JL.nil ?_
        refine JQ.seq ?_
        refine JC.ret ?_
        refine JQ.thenRet ?_
        refine Done.one (.inl rfl) rfl (RV.tmp (v := str ([45] ++ o_)) rfl) (List.nil_sublist _) ?_
        refine ⟨?_, rfl⟩
        rw [dec_neg (by omega), ← hR, mtAcc_zero (by omega)]
        rfl
      · skip
        exfalso; omega
    · skip
      refine JC.condT (congrArg Value.bool (congrArg Bool.not (decide_eq_false h_7))) ?_
      refine JC.skip ?_
      refine JQ.seq ?_
      refine JC.block ?_
      refine JC.seq ?_
      refine JC.region ?_
      refine JL.pure rfl (PO.move (v := .int .i64 (-((k1 : Nat) : Int))) he_3) ?_
      refine JL.pure rfl (PO.rem (c := -((k1 % 10 : Nat) : Int)) rfl rfl (by omega) (tmod10 k1)) ?_
      refine JL.pure rfl (PO.assign (v := .int .i64 (-((k1 % 10 : Nat) : Int))) rfl) ?_
      refine JL.nil ?_
      refine JQ.seq ?_
      refine JC.seq ?_
      refine JC.seq ?_
      refine JC.region ?_
      refine JL.pure rfl (PO.move (v := .int .i64 (-((k1 % 10 : Nat) : Int))) rfl) ?_
      refine JL.pure rfl (PO.lss rfl rfl) ?_
      refine JL.nil ?_
      refine JQ.seq ?_
      by_cases h_9 : (-((k1 % 10 : Nat) : Int)) < 0
      · skip
        refine JC.condT (congrArg Value.bool (decide_eq_true h_9)) ?_
        refine JC.region ?_
        refine JL.pure rfl (PO.move (v := .int .i64 (-((k1 % 10 : Nat) : Int))) rfl) ?_
        refine JL.pure rfl (PO.neg (c := ((k1 % 10 : Nat) : Int)) rfl (wr (by omega))) ?_
        refine JL.pure rfl (PO.assign (v := .int .i64 ((k1 % 10 : Nat) : Int)) rfl) ?_
        refine JL.nil ?_
        refine JQ.seq ?_
        refine JC.seq ?_
        refine JC.region ?_
        refine JL.pure rfl (PO.move (v := .int .i64 ((k1 % 10 : Nat) : Int)) rfl) ?_
        refine JL.op rfl (JO.call [] Tryz.call285 rfl (C_figure (k1 % 10) (by omega)) rfl (fun _ _ => trivial)) ?_
        rintro _ _ ⟨_, ⟨rfl, rfl⟩, rfl⟩
        refine JL.op rfl (JO.buildSlice (ps := [(0, .int .u8 ((48 + (k1 % 10) : Nat) : Int))]) (cur := #[.int .u8 ((48 + (k1 % 10) : Nat) : Int)]) Tryz.underlying44 Tryz.sizeOf5 Tryz.zeroValue5 rfl (by kernel_rfl) (by decide) (by decide)) ?_
        rintro _ _ ⟨a_10, rfl, rfl⟩
        refine JL.ld rfl (LO.toStr 0 [UInt8.ofNat (48 + (k1 % 10))] rfl Tryz.underlying44 Tryz.underlying5 Tryz.underlying9 rfl (by rw [List.map_cons, List.map_nil, encB_of _ (by omega)])) ?_
        refine JL.pure rfl (PO.move (v := str o_) he_6) ?_
        refine JL.pure rfl (PO.addS rfl rfl (by (try simp only [List.length_append, List.length_cons, List.length_nil, List.length_drop, List.length_take]); omega)) ?_
        refine JL.pure rfl (PO.assign (v := str ([UInt8.ofNat (48 + (k1 % 10))] ++ o_)) rfl) ?_
        refine JL.nil ?_
        refine JQ.seq ?_
        refine JC.region ?_
        refine JL.pure rfl (PO.move (v := .int .i64 (-((k1 : Nat) : Int))) he_3) ?_
        refine JL.pure rfl (PO.quo (c := -((k1 / 10 : Nat) : Int)) rfl rfl (by omega) ((congrArg _ (tdiv10 k1)).trans (wr (by omega)))) ?_
        refine JL.pure rfl (PO.assign (v := .int .i64 (-((k1 / 10 : Nat) : Int))) rfl) ?_
        refine JL.nil ?_
        refine JQ.blockN ?_
        refine JQ.pick [] (A := []) rfl ?_
        refine JQ.again (k1 / 10 + 1) (by omega) ⟨(k1 / 10), [UInt8.ofNat (48 + (k1 % 10))] ++ o_, by omega, (by simp only [List.length_append, List.length_cons, List.length_nil]; omega), (by rw [mtAcc_step (by omega)]; exact hR), rfl, he_4, he_5, rfl, rfl, rfl⟩
      · skip
        have hz_11 : -((k1 % 10 : Nat) : Int) = ((k1 % 10 : Nat) : Int) := by omega
        have hz_12 : -((k1 % 10 : Nat) : Int) = ((k1 % 10 : Nat) : Int) := by omega
        have hz_13 : -((k1 % 10 : Nat) : Int) = ((k1 % 10 : Nat) : Int) := by omega
        refine JC.condF (congrArg Value.bool (decide_eq_false h_9)) ?_
        refine JC.skip ?_
        refine JQ.seq ?_
        refine JC.seq ?_
        refine JC.region ?_
        refine JL.pure rfl (PO.move (v := .int .i64 ((k1 % 10 : Nat) : Int)) (congrArg (Value.int .i64) hz_12)) ?_
        refine JL.op rfl (JO.call [] Tryz.call285 rfl (C_figure (k1 % 10) (by omega)) rfl (fun _ _ => trivial)) ?_
        rintro _ _ ⟨_, ⟨rfl, rfl⟩, rfl⟩
        refine JL.op rfl (JO.buildSlice (ps := [(0, .int .u8 ((48 + (k1 % 10) : Nat) : Int))]) (cur := #[.int .u8 ((48 + (k1 % 10) : Nat) : Int)]) Tryz.underlying44 Tryz.sizeOf5 Tryz.zeroValue5 rfl (by kernel_rfl) (by decide) (by decide)) ?_
        rintro _ _ ⟨a_14, rfl, rfl⟩
        refine JL.ld rfl (LO.toStr 0 [UInt8.ofNat (48 + (k1 % 10))] rfl Tryz.underlying44 Tryz.underlying5 Tryz.underlying9 rfl (by rw [List.map_cons, List.map_nil, encB_of _ (by omega)])) ?_
        refine JL.pure rfl (PO.move (v := str o_) he_6) ?_
        refine JL.pure rfl (PO.addS rfl rfl (by (try simp only [List.length_append, List.length_cons, List.length_nil, List.length_drop, List.length_take]); omega)) ?_
        refine JL.pure rfl (PO.assign (v := str ([UInt8.ofNat (48 + (k1 % 10))] ++ o_)) rfl) ?_
        refine JL.nil ?_
        refine JQ.seq ?_
        refine JC.region ?_
        refine JL.pure rfl (PO.move (v := .int .i64 (-((k1 : Nat) : Int))) he_3) ?_
        refine JL.pure rfl (PO.quo (c := -((k1 / 10 : Nat) : Int)) rfl rfl (by omega) ((congrArg _ (tdiv10 k1)).trans (wr (by omega)))) ?_
        refine JL.pure rfl (PO.assign (v := .int .i64 (-((k1 / 10 : Nat) : Int))) rfl) ?_
        refine JL.nil ?_
        refine JQ.blockN ?_
        refine JQ.pick [] (A := []) rfl ?_
        refine JQ.again (k1 / 10 + 1) (by omega) ⟨(k1 / 10), [UInt8.ofNat (48 + (k1 % 10))] ++ o_, by omega, (by simp only [List.length_append, List.length_cons, List.length_nil]; omega), (by rw [mtAcc_step (by omega)]; exact hR), rfl, he_4, he_5, rfl, rfl, rfl⟩

theorem C_sDecP (k : Nat) (h1 : k ≤ 9223372036854775807) :
    Ct Tryz.prog 276 [.int .i64 ((k : Nat) : Int)] [] (fun _ => True) (fun v A' => v = str (dec ((k : Nat) : Int)) ∧ A' = []) := by
  refine Ct.intro Tryz.func276 rfl Tryz.ntmps276 (Nat.le_of_ble_eq_true rfl) fun w0 hpre => ?_
  refine JC.seq ?_
  refine JC.region ?_
  refine JL.pure rfl (PO.assign (v := str []) rfl) ?_
  refine JL.nil ?_
  refine JQ.seq ?_
  refine JC.seq ?_
  refine JC.seq ?_
  refine JC.region ?_
  refine JL.pure rfl (PO.move (v := .int .i64 ((k : Nat) : Int)) rfl) ?_
  refine JL.pure rfl (PO.eqlI rfl rfl) ?_
  refine JL.nil ?_
  refine JQ.seq ?_
  by_cases h_1 : ((k : Nat) : Int) = 0
  · skip
    refine JC.condT (congrArg Value.bool (decide_eq_true h_1)) ?_
    refine JC.seq ?_
    refine JC.region ?_
    refine JL.pure rfl (PO.assign (v := str [48]) rfl) ?_
    refine JL.nil ?_
    refine JQ.seq ?_
    refine JC.ret ?_
    refine JQ.thenRet ?_
    refine Done.one (.inl rfl) rfl (RV.tmp (v := str [48]) rfl) (List.nil_sublist _) ?_
    refine ⟨?_, rfl⟩
    rw [show ((k : Nat) : Int) = 0 by omega, dec_zero]
  · skip
    refine JC.condF (congrArg Value.bool (decide_eq_false h_1)) ?_
    refine JC.skip ?_
    refine JQ.seq ?_
    refine JC.seq ?_
    refine JC.region ?_
    refine JL.pure rfl (PO.move (v := .int .i64 ((k : Nat) : Int)) rfl) ?_
    refine JL.pure rfl (PO.lss rfl rfl) ?_
    refine JL.pure rfl (PO.assign (v := .bool (decide (((k : Nat) : Int) < 0))) rfl) ?_
    refine JL.nil ?_
    refine JQ.seq ?_
    refine JC.seq ?_
    refine JC.region ?_
    refine JL.pure rfl (PO.assign (v := str []) rfl) ?_
    refine JL.nil ?_
    refine JQ.seq ?_
    refine JC.seq ?_
    refine JC.block ?_
    refine JC.loop (fun k_ e_ L_ => ∃ k1 : Nat, ∃ o_ : Str, (k1 ≤ k) ∧ (o_.length + k1 ≤ k) ∧ (mtAcc k1 o_ = mtAcc k []) ∧ e_ 0 = .int .i64 ((k1 : Nat) : Int) ∧ e_ 2 = str [] ∧ e_ 3 = .bool (decide (((k : Nat) : Int) < 0)) ∧ e_ 4 = str o_ ∧ L_ = [] ∧ k_ = k1 + 1) _ ⟨k, [], by omega, (by simp), rfl, rfl, rfl, rfl, rfl, rfl, rfl⟩ ?_
    rintro _ e_2 _ ⟨k1, o_, hk, hl, hR, he_3, he_4, he_5, he_6, rfl, rfl⟩
    refine JC.seq ?_
    refine JC.seq ?_
    refine JC.region ?_
    refine JL.pure rfl (PO.move (v := .int .i64 ((k1 : Nat) : Int)) he_3) ?_
    refine JL.pure rfl (PO.neqI rfl rfl) ?_
    refine JL.nil ?_
    refine JQ.seq ?_
    by_cases h_7 : ((k1 : Nat) : Int) = 0
    · skip
      refine JC.condF (congrArg Value.bool (congrArg Bool.not (decide_eq_true h_7))) ?_
      refine JC.exit ?_
      refine JQ.thenExit ?_
      refine JQ.thenExit ?_
      refine JQ.blockE ?_
      refine JQ.seq ?_
      refine JC.seq ?_
      refine JC.seq ?_
      refine JC.region ?_
      refine JL.pure rfl (PO.move (v := .bool (decide (((k : Nat) : Int) < 0))) he_5) ?_
      refine JL.nil ?_
      refine JQ.seq ?_
      by_cases h_8 : ((k : Nat) : Int) < 0
      · skip
        exfalso; omega
      · skip
        refine JC.condF (congrArg Value.bool (decide_eq_false h_8)) ?_
        refine JC.skip ?_
        refine JQ.seq ?_
        refine JC.seq ?_
        refine JC.region ?_
        refine JL.pure rfl (PO.move (v := str o_) he_6) ?_
        refine JL.pure rfl (PO.assign (v := str o_) rfl) ?_
        refine JL.nil ?_
        refine JQ.seq ?_
        refine JC.ret ?_
        refine Done.one (.inl rfl) rfl (RV.tmp (v := str o_) rfl) (List.nil_sublist _) ?_
        refine ⟨?_, rfl⟩
        rw [dec_nat (by omega), ← hR, mtAcc_zero (by omega)]
    · skip
      refine JC.condT (congrArg Value.bool (congrArg Bool.not (decide_eq_false h_7))) ?_
      refine JC.skip ?_
      refine JQ.seq ?_
      refine JC.block ?_
      refine JC.seq ?_
      refine JC.region ?_
      refine JL.pure rfl (PO.move (v := .int .i64 ((k1 : Nat) : Int)) he_3) ?_
      refine JL.pure rfl (PO.remN (c := ((k1 % 10 : Nat) : Int)) rfl rfl (by omega) (by omega) (by omega)) ?_
      refine JL.pure rfl (PO.assign (v := .int .i64 ((k1 % 10 : Nat) : Int)) rfl) ?_
      refine JL.nil ?_
      refine JQ.seq ?_
      refine JC.seq ?_
      refine JC.seq ?_
      refine JC.region ?_
      refine JL.pure rfl (PO.move (v := .int .i64 ((k1 % 10 : Nat) : Int)) rfl) ?_
      refine JL.pure rfl (PO.lss rfl rfl) ?_
      refine JL.nil ?_
      refine JQ.seq ?_
      by_cases h_9 : ((k1 % 10 : Nat) : Int) < 0
      · skip
        exfalso; omega
      · skip
        refine JC.condF (congrArg Value.bool (decide_eq_false h_9)) ?_
        refine JC.skip ?_
        refine JQ.seq ?_
        refine JC.seq ?_
        refine JC.region ?_
        refine JL.pure rfl (PO.move (v := .int .i64 ((k1 % 10 : Nat) : Int)) rfl) ?_
        refine JL.op rfl (JO.call [] Tryz.call285 rfl (C_figure (k1 % 10) (by omega)) rfl (fun _ _ => trivial)) ?_
        rintro _ _ ⟨_, ⟨rfl, rfl⟩, rfl⟩
        refine JL.op rfl (JO.buildSlice (ps := [(0, .int .u8 ((48 + (k1 % 10) : Nat) : Int))]) (cur := #[.int .u8 ((48 + (k1 % 10) : Nat) : Int)]) Tryz.underlying44 Tryz.sizeOf5 Tryz.zeroValue5 rfl (by kernel_rfl) (by decide) (by decide)) ?_
        rintro _ _ ⟨a_10, rfl, rfl⟩
        refine JL.ld rfl (LO.toStr 0 [UInt8.ofNat (48 + (k1 % 10))] rfl Tryz.underlying44 Tryz.underlying5 Tryz.underlying9 rfl (by rw [List.map_cons, List.map_nil, encB_of _ (by omega)])) ?_
        refine JL.pure rfl (PO.move (v := str o_) he_6) ?_
        refine JL.pure rfl (PO.addS rfl rfl (by (try simp only [List.length_append, List.length_cons, List.length_nil, List.length_drop, List.length_take]); omega)) ?_
        refine JL.pure rfl (PO.assign (v := str ([UInt8.ofNat (48 + (k1 % 10))] ++ o_)) rfl) ?_
        refine JL.nil ?_
        refine JQ.seq ?_
        refine JC.region ?_
        refine JL.pure rfl (PO.move (v := .int .i64 ((k1 : Nat) : Int)) he_3) ?_
        refine JL.pure rfl (PO.quoN (c := ((k1 / 10 : Nat) : Int)) rfl rfl (by omega) (by omega) (by omega) (wr (by omega))) ?_
        refine JL.pure rfl (PO.assign (v := .int .i64 ((k1 / 10 : Nat) : Int)) rfl) ?_
        refine JL.nil ?_
        refine JQ.blockN ?_
        refine JQ.pick [] (A := []) rfl ?_
        refine JQ.again (k1 / 10 + 1) (by omega) ⟨(k1 / 10), [UInt8.ofNat (48 + (k1 % 10))] ++ o_, by omega, (by simp only [List.length_append, List.length_cons, List.length_nil]; omega), (by rw [mtAcc_step (by omega)]; exact hR), rfl, he_4, he_5, rfl, rfl, rfl⟩

theorem N_sDec (n : Int) (hn : -9223372036854775808 ≤ n ∧ n ≤ 9223372036854775807) : Ct Tryz.prog 276 [.int .i64 n] [] (fun _ => True) (fun v A' => ∃ r0, dec n = r0 ∧ r0.length ≤ 21 ∧ v = str r0 ∧ A' = []) := by
  have h21 := dec_len21 hn.1 hn.2
  by_cases h : 0 ≤ n
  · have := C_sDecP n.toNat (by omega)
    rw [Int.toNat_of_nonneg h] at this
    exact this.weak (fun _ h => h) fun v A' ⟨h1, h2⟩ => ⟨_, rfl, h21, h1, h2⟩
  · have := C_sDecM (-n).toNat (by omega) (by omega)
    rw [Int.toNat_of_nonneg (by omega), Int.neg_neg] at this
    exact this.weak (fun _ h => h) fun v A' ⟨h1, h2⟩ => ⟨_, rfl, h21, h1, h2⟩

theorem N_dec (n : Int) (hn : -9223372036854775808 ≤ n ∧ n ≤ 9223372036854775807) : Ct Tryz.prog 64 [.int .i64 n] [] (fun _ => True) (fun v A' => ∃ r0, dec n = r0 ∧ r0.length ≤ 21 ∧ v = str r0 ∧ A' = []) :=
  (C_decimal n hn.1 hn.2).weak (fun _ h => h) fun v A' ⟨h1, h2⟩ => ⟨_, rfl, dec_len21 hn.1 hn.2, h1, h2⟩

theorem N_numOf (t : Str) (ht : t.length ≤ 1000000000000) : Ct Tryz.prog 221 [str t] [] (fun _ => True) (fun v A' => ∃ r0, numOf t = r0 ∧ (0 ≤ r0 ∧ r0 ≤ 999) ∧ v = .int .i64 r0 ∧ A' = []) :=
  (C_numOf t (by omega)).weak (fun _ h => h) fun v A' ⟨h1, h2⟩ => ⟨_, rfl, numOf_lo t, h1, h2⟩

theorem N_sNumOf (t : Str) (ht : t.length ≤ 1000000000000) : Ct Tryz.prog 217 [str t] [] (fun _ => True) (fun v A' => ∃ r0, numOf t = r0 ∧ (0 ≤ r0 ∧ r0 ≤ 999) ∧ v = .int .i64 r0 ∧ A' = []) :=
  (C_sNumOf t (by omega)).weak (fun _ h => h) fun v A' ⟨h1, h2⟩ => ⟨_, rfl, numOf_lo t, h1, h2⟩

theorem N_sNumAt (x : MA) (m : MS) {S T : Nat} (hk : m.ok S T) (hS : S ≤ 900000000) (hT : T ≤ 900000000) (key : Str) :
    Ct Tryz.prog 228 [mv x m, str key] (mr x m) (fun _ => True) (fun v A' => ∃ x' m' r0, MS.num m key = (m', r0) ∧ m'.ok (S) (T + 1) ∧ (0 ≤ r0 ∧ r0 ≤ 999) ∧ v = .tuple #[mv x' m', .int .i64 r0] ∧ A' = mr x' m') := by
  refine Ct.intro Tryz.func228 rfl Tryz.ntmps228 (Nat.le_of_ble_eq_true rfl) fun w0 hpre => ?_
  refine JC.seq ?_
  refine JC.region ?_
  refine JL.op rfl (JO.box (cs := [.slice x.a0 m.s.length x.c0, .slice x.a1 m.r.length x.c1, .slice x.a2 m.w.length x.c2]) rfl rfl) ?_
  rintro _ _ ⟨b_1, rfl, rfl⟩
  refine JL.op rfl (JO.alloc (z := .agg #[.slice none 0 0, .slice none 0 0, .slice none 0 0]) (cs := [.slice none 0 0, .slice none 0 0, .slice none 0 0]) Tryz.zeroValue32 rfl) ?_
  rintro _ _ ⟨b_2, rfl, rfl⟩
  refine JL.pure rfl (PO.assign (v := .int .i64 0) rfl) ?_
  refine JL.nil ?_
  refine JQ.seq ?_
  refine JC.seq ?_
  refine JC.region ?_
  refine JL.ld rfl (LO.loadK 1 (vs := [.slice x.a0 m.s.length x.c0, .slice x.a1 m.r.length x.c1, .slice x.a2 m.w.length x.c2]) rfl rfl Tryz.isAgg32 Tryz.sizeOf32 rfl rfl) ?_
  refine JL.pure rfl (PO.move (v := str key) rfl) ?_
  refine JL.op rfl (JO.call [2, 2, 2] Tryz.call230 rfl (N_sLook x m hk (by omega) (by omega) key) rfl (fun _ _ => trivial)) ?_
  rintro _ _ ⟨_, ⟨x_5, m_6, u_7, e_3, k_4, f_8, rfl, rfl⟩, rfl⟩
  refine JL.pure rfl (PO.move (v := .tuple #[mv x_5 m_6, str u_7]) rfl) ?_
  refine JL.pure rfl (PO.extract (v := mv x_5 m_6) rfl rfl) ?_
  refine JL.pure rfl (PO.extract (v := str u_7) rfl rfl) ?_
  refine JL.op rfl (JO.store 4 (vs := [.slice x_5.a0 m_6.s.length x_5.c0, .slice x_5.a1 m_6.r.length x_5.c1, .slice x_5.a2 m_6.w.length x_5.c2]) (cs' := [.slice x_5.a0 m_6.s.length x_5.c0, .slice x_5.a1 m_6.r.length x_5.c1, .slice x_5.a2 m_6.w.length x_5.c2]) rfl rfl rfl rfl Tryz.sizeOf32 rfl rfl (Nat.le_of_ble_eq_true rfl) rfl) ?_
  rintro _ _ rfl
  refine JL.pure rfl (PO.assign (v := str u_7) rfl) ?_
  refine JL.nil ?_
  refine JQ.seq ?_
  refine JC.seq ?_
  refine JC.regionA [mb b_1 x_5 m_6] 3 mixed (by simp) ?_
  refine JA.take 0 rfl (by kernel_rfl) (NP.th NP.body) (by kernel_rfl) (by kernel_rfl) (by kernel_rfl) rfl (LO.loadK 0 (vs := [.slice x_5.a0 m_6.s.length x_5.c0, .slice x_5.a1 m_6.r.length x_5.c1, .slice x_5.a2 m_6.w.length x_5.c2]) rfl rfl Tryz.isAgg32 Tryz.sizeOf32 rfl rfl) ?_
  refine JA.takeP 1 rfl (by kernel_rfl) (NP.th NP.body) (by kernel_rfl) (by kernel_rfl) rfl (PO.move (v := str u_7) rfl) ?_
  refine JA.one (i := 2) (by kernel_rfl) ?_
  refine JX.op rfl rfl (JO.call [] Tryz.call217 rfl (N_sNumOf u_7 (by omega)) rfl (fun _ _ => trivial)) ?_
  rintro _ _ ⟨_, ⟨n_15, e_13, f_16, rfl, rfl⟩, rfl⟩
  refine ⟨(by simp), ?_⟩
  refine JA.one (i := 3) (by kernel_rfl) ?_
  refine JX.late rfl rfl (by decide) (by kernel_rfl) (JO.store 3 (vs := [.slice x_5.a0 m_6.s.length x_5.c0, .slice x_5.a1 m_6.r.length x_5.c1, .slice x_5.a2 m_6.w.length x_5.c2]) (cs' := [.slice x_5.a0 m_6.s.length x_5.c0, .slice x_5.a1 m_6.r.length x_5.c1, .slice x_5.a2 m_6.w.length x_5.c2]) rfl rfl rfl rfl Tryz.sizeOf32 rfl rfl (Nat.le_of_ble_eq_true rfl) rfl) ?_
  rintro _ _ rfl
  refine JA.takeP 4 rfl (by kernel_rfl) (NP.th NP.body) (by kernel_rfl) (by kernel_rfl) rfl (PO.assign (v := .int .i64 n_15) rfl) ?_
  refine JA.done (by kernel_rfl) ?_
  refine JQ.seq ?_
  refine JC.ret ?_
  refine Done.two (.inl rfl) rfl (RV.cell1 (LO.loadK 3 (vs := [.slice x_5.a0 m_6.s.length x_5.c0, .slice x_5.a1 m_6.r.length x_5.c1, .slice x_5.a2 m_6.w.length x_5.c2]) rfl rfl Tryz.isAgg32 Tryz.sizeOf32 rfl rfl) ⟨_, rfl⟩) (RV.tmp (v := .int .i64 n_15) rfl) (List.sublist_append_left [rC x_5.a0 x_5.c0 m_6.s, rS x_5.a1 x_5.c1 m_6.r, rS x_5.a2 x_5.c2 m_6.w] [mb b_2 x_5 m_6, mb b_1 x_5 m_6]) ?_
  exact ⟨x_5, m_6, n_15, (by simp only [MS.num, e_3, e_13, if_true, if_false, Bool.false_eq_true, Bool.not_true, Bool.not_false]; (repeat (first | rw [if_pos (by omega)] | rw [if_neg (by omega)])); all_goals (first | rfl | simp only [if_true, if_false, Bool.false_eq_true, Bool.not_true, Bool.not_false, e_3, e_13])), (k_4.mono (by omega) (by omega)), (by first | omega | (simp only [List.length_append, List.length_cons, List.length_nil, List.length_take, List.length_drop]; omega)), rfl, rfl⟩

theorem N_sSetNum (x : MA) (m : MS) {S T : Nat} (hk : m.ok S T) (hS : S ≤ 900000000) (hT : T ≤ 900000000) (key : Str) (n : Int) (hkey : key.length ≤ 1000000000000) (hn : -9223372036854775808 ≤ n ∧ n ≤ 9223372036854775807) :
    Ct Tryz.prog 233 [mv x m, str key, .int .i64 n] (mr x m) (fun _ => True) (fun v A' => ∃ x' m', MS.setNum m key n = m' ∧ m'.ok (S + 1) (T + 1) ∧ v = mv x' m' ∧ A' = mr x' m') := by
  refine Ct.intro Tryz.func233 rfl Tryz.ntmps233 (Nat.le_of_ble_eq_true rfl) fun w0 hpre => ?_
  refine JC.seq ?_
  refine JC.region ?_
  refine JL.op rfl (JO.box (cs := [.slice x.a0 m.s.length x.c0, .slice x.a1 m.r.length x.c1, .slice x.a2 m.w.length x.c2]) rfl rfl) ?_
  rintro _ _ ⟨b_1, rfl, rfl⟩
  refine JL.op rfl (JO.alloc (z := .agg #[.slice none 0 0, .slice none 0 0, .slice none 0 0]) (cs := [.slice none 0 0, .slice none 0 0, .slice none 0 0]) Tryz.zeroValue32 rfl) ?_
  rintro _ _ ⟨b_2, rfl, rfl⟩
  refine JL.nil ?_
  refine JQ.seq ?_
  refine JC.seq ?_
  refine JC.seq ?_
  refine JC.region ?_
  refine JL.pure rfl (PO.move (v := .int .i64 n) rfl) ?_
  refine JL.op rfl (JO.call [] Tryz.call144 rfl (C_l01In n 1 999) rfl (fun _ _ => trivial)) ?_
  rintro _ _ ⟨_, ⟨rfl, rfl⟩, rfl⟩
  refine JL.pure rfl (PO.not rfl) ?_
  refine JL.nil ?_
  refine JQ.seq ?_
  rcases Bool.eq_false_or_eq_true (decide (1 ≤ n) && decide (n ≤ 999)) with h_3 | h_3
  · skip
    have h_3d := h_3
    simp only [Bool.and_eq_true, Bool.and_eq_false_iff, decide_eq_true_eq, decide_eq_false_iff_not] at h_3d
    refine JC.condF (congrArg Value.bool (congrArg Bool.not h_3)) ?_
    refine JC.skip ?_
    refine JQ.seq ?_
    refine JC.seq ?_
    refine JC.regionA [mb b_1 x m] 4 mixed (by simp) ?_
    refine JA.take 0 rfl (by kernel_rfl) (NP.th NP.body) (by kernel_rfl) (by kernel_rfl) (by kernel_rfl) rfl (LO.loadK 0 (vs := [.slice x.a0 m.s.length x.c0, .slice x.a1 m.r.length x.c1, .slice x.a2 m.w.length x.c2]) rfl rfl Tryz.isAgg32 Tryz.sizeOf32 rfl rfl) ?_
    refine JA.takeP 1 rfl (by kernel_rfl) (NP.th NP.body) (by kernel_rfl) (by kernel_rfl) rfl (PO.move (v := str key) rfl) ?_
    refine JA.takeP 2 rfl (by kernel_rfl) (NP.th NP.body) (by kernel_rfl) (by kernel_rfl) rfl (PO.move (v := .int .i64 n) rfl) ?_
    refine JA.one (i := 3) (by kernel_rfl) ?_
    refine JX.op rfl rfl (JO.call [] Tryz.call276 rfl (N_sDec n (by omega)) rfl (fun _ _ => trivial)) ?_
    rintro _ _ ⟨_, ⟨u_10, e_8, f_11, rfl, rfl⟩, rfl⟩
    refine ⟨(by simp), ?_⟩
    refine JA.one (i := 4) (by kernel_rfl) ?_
    refine JX.late rfl rfl (by decide) (by kernel_rfl) (JO.call [2, 2, 2] Tryz.call232 rfl (N_sLay x m hk (by omega) (by omega) key u_10 (by omega)) rfl (fun _ _ => trivial)) ?_
    rintro _ _ ⟨_, ⟨x_18, m_19, e_16, k_17, rfl, rfl⟩, rfl⟩
    refine JA.one (i := 5) (by kernel_rfl) ?_
    refine JX.last rfl rfl (by decide) (by kernel_rfl) (JO.store 3 (vs := [.slice x_18.a0 m_19.s.length x_18.c0, .slice x_18.a1 m_19.r.length x_18.c1, .slice x_18.a2 m_19.w.length x_18.c2]) (cs' := [.slice x_18.a0 m_19.s.length x_18.c0, .slice x_18.a1 m_19.r.length x_18.c1, .slice x_18.a2 m_19.w.length x_18.c2]) rfl rfl rfl rfl Tryz.sizeOf32 rfl rfl (Nat.le_of_ble_eq_true rfl) rfl) ?_
    rintro _ _ rfl
    refine JQ.seq ?_
    refine JC.ret ?_
    refine Done.one (.inl rfl) rfl (RV.cell1 (LO.loadK 3 (vs := [.slice x_18.a0 m_19.s.length x_18.c0, .slice x_18.a1 m_19.r.length x_18.c1, .slice x_18.a2 m_19.w.length x_18.c2]) rfl rfl Tryz.isAgg32 Tryz.sizeOf32 rfl rfl) ⟨_, rfl⟩) (List.sublist_append_left [rC x_18.a0 x_18.c0 m_19.s, rS x_18.a1 x_18.c1 m_19.r, rS x_18.a2 x_18.c2 m_19.w] [mb b_2 x_18 m_19, mb b_1 x m]) ?_
    exact ⟨x_18, m_19, (by simp only [MS.setNum, h_3, e_8, e_16, if_true, if_false, Bool.false_eq_true, Bool.not_true, Bool.not_false]; (repeat (first | rw [if_pos (by omega)] | rw [if_neg (by omega)])); all_goals (first | rfl | simp only [if_true, if_false, Bool.false_eq_true, Bool.not_true, Bool.not_false, h_3, e_8, e_16])), (k_17.mono (by omega) (by omega)), rfl, rfl⟩
  · skip
    have h_3d := h_3
    simp only [Bool.and_eq_true, Bool.and_eq_false_iff, decide_eq_true_eq, decide_eq_false_iff_not] at h_3d
    refine JC.condT (congrArg Value.bool (congrArg Bool.not h_3)) ?_
    refine JC.seq ?_
    refine JC.region ?_
    refine JL.ld rfl (LO.loadK 1 (vs := [.slice x.a0 m.s.length x.c0, .slice x.a1 m.r.length x.c1, .slice x.a2 m.w.length x.c2]) rfl rfl Tryz.isAgg32 Tryz.sizeOf32 rfl rfl) ?_
    refine JL.pure rfl (PO.move (v := str key) rfl) ?_
    refine JL.op rfl (JO.call [2, 2, 2] Tryz.call232 rfl (N_sLayNil x m hk (by omega) (by omega) key (by omega)) rfl (fun _ _ => trivial)) ?_
    rintro _ _ ⟨_, ⟨x_22, m_23, e_20, k_21, rfl, rfl⟩, rfl⟩
    refine JL.op rfl (JO.store 3 (vs := [.slice x_22.a0 m_23.s.length x_22.c0, .slice x_22.a1 m_23.r.length x_22.c1, .slice x_22.a2 m_23.w.length x_22.c2]) (cs' := [.slice x_22.a0 m_23.s.length x_22.c0, .slice x_22.a1 m_23.r.length x_22.c1, .slice x_22.a2 m_23.w.length x_22.c2]) rfl rfl rfl rfl Tryz.sizeOf32 rfl rfl (Nat.le_of_ble_eq_true rfl) rfl) ?_
    rintro _ _ rfl
    refine JL.nil ?_
    refine JQ.seq ?_
    refine JC.ret ?_
    refine JQ.thenRet ?_
    refine Done.one (.inl rfl) rfl (RV.cell1 (LO.loadK 3 (vs := [.slice x_22.a0 m_23.s.length x_22.c0, .slice x_22.a1 m_23.r.length x_22.c1, .slice x_22.a2 m_23.w.length x_22.c2]) rfl rfl Tryz.isAgg32 Tryz.sizeOf32 rfl rfl) ⟨_, rfl⟩) (List.sublist_append_left [rC x_22.a0 x_22.c0 m_23.s, rS x_22.a1 x_22.c1 m_23.r, rS x_22.a2 x_22.c2 m_23.w] [mb b_2 x_22 m_23, mb b_1 x m]) ?_
    exact ⟨x_22, m_23, (by simp only [MS.setNum, h_3, e_20, if_true, if_false, Bool.false_eq_true, Bool.not_true, Bool.not_false]; (repeat (first | rw [if_pos (by omega)] | rw [if_neg (by omega)])); all_goals (first | rfl | simp only [if_true, if_false, Bool.false_eq_true, Bool.not_true, Bool.not_false, h_3, e_20])), (k_21.mono (by omega) (by omega)), rfl, rfl⟩

theorem N_keyNum {hb tb : Nat} (h : Str) (n : Int) (t : Str) (hh : h.length ≤ hb) (hn : -9223372036854775808 ≤ n ∧ n ≤ 9223372036854775807) (ht : t.length ≤ tb) (hq : hb + tb ≤ 1000000) :
    Ct Tryz.prog 215 [str h, .int .i64 n, str t] ([]) (fun _ => True) (fun v A' => ∃ r0, keyNum h n t = r0 ∧ r0.length ≤ hb + 21 + tb ∧ v = str r0 ∧ A' = []) := by
  refine Ct.intro Tryz.func215 rfl Tryz.ntmps215 (Nat.le_of_ble_eq_true rfl) fun w0 hpre => ?_
  refine JC.seq ?_
  refine JC.region ?_
  refine JL.pure rfl (PO.assign (v := str []) rfl) ?_
  refine JL.nil ?_
  refine JQ.seq ?_
  refine JC.seq ?_
  refine JC.region ?_
  refine JL.pure rfl (PO.move (v := str h) rfl) ?_
  refine JL.pure rfl (PO.move (v := .int .i64 n) rfl) ?_
  refine JL.op rfl (JO.call [] Tryz.call64 rfl (N_dec n (by omega)) rfl (fun _ _ => trivial)) ?_
  rintro _ _ ⟨_, ⟨u_3, e_1, f_4, rfl, rfl⟩, rfl⟩
  refine JL.pure rfl (PO.addS rfl rfl (by (try simp only [List.length_append, List.length_cons, List.length_nil, List.length_drop, List.length_take]); omega)) ?_
  refine JL.pure rfl (PO.move (v := str t) rfl) ?_
  refine JL.pure rfl (PO.addS rfl rfl (by (try simp only [List.length_append, List.length_cons, List.length_nil, List.length_drop, List.length_take]); omega)) ?_
  refine JL.pure rfl (PO.assign (v := str ((h ++ u_3) ++ t)) rfl) ?_
  refine JL.nil ?_
  refine JQ.seq ?_
  refine JC.ret ?_
  refine Done.one (.inl rfl) rfl (RV.tmp (v := str ((h ++ u_3) ++ t)) rfl) (List.nil_sublist _) ?_
  exact ⟨((h ++ u_3) ++ t), (by simp only [keyNum, e_1, if_true, if_false, Bool.false_eq_true, Bool.not_true, Bool.not_false]; (repeat (first | rw [if_pos (by omega)] | rw [if_neg (by omega)])); all_goals (first | rfl | simp only [if_true, if_false, Bool.false_eq_true, Bool.not_true, Bool.not_false, e_1])), (by first | omega | (simp only [List.length_append, List.length_cons, List.length_nil, List.length_take, List.length_drop]; omega)), rfl, rfl⟩

theorem N_sKeyNum {hb tb : Nat} (h : Str) (n : Int) (t : Str) (hh : h.length ≤ hb) (hn : -9223372036854775808 ≤ n ∧ n ≤ 9223372036854775807) (ht : t.length ≤ tb) (hq : hb + tb ≤ 1000000) :
    Ct Tryz.prog 219 [str h, .int .i64 n, str t] ([]) (fun _ => True) (fun v A' => ∃ r0, keyNum h n t = r0 ∧ r0.length ≤ hb + 21 + tb ∧ v = str r0 ∧ A' = []) := by
  refine Ct.intro Tryz.func219 rfl Tryz.ntmps219 (Nat.le_of_ble_eq_true rfl) fun w0 hpre => ?_
  refine JC.seq ?_
  refine JC.region ?_
  refine JL.pure rfl (PO.assign (v := str []) rfl) ?_
  refine JL.nil ?_
  refine JQ.seq ?_
  refine JC.seq ?_
  refine JC.region ?_
  refine JL.pure rfl (PO.move (v := str h) rfl) ?_
  refine JL.pure rfl (PO.move (v := .int .i64 n) rfl) ?_
  refine JL.op rfl (JO.call [] Tryz.call276 rfl (N_sDec n (by omega)) rfl (fun _ _ => trivial)) ?_
  rintro _ _ ⟨_, ⟨u_3, e_1, f_4, rfl, rfl⟩, rfl⟩
  refine JL.pure rfl (PO.addS rfl rfl (by (try simp only [List.length_append, List.length_cons, List.length_nil, List.length_drop, List.length_take]); omega)) ?_
  refine JL.pure rfl (PO.move (v := str t) rfl) ?_
  refine JL.pure rfl (PO.addS rfl rfl (by (try simp only [List.length_append, List.length_cons, List.length_nil, List.length_drop, List.length_take]); omega)) ?_
  refine JL.pure rfl (PO.assign (v := str ((h ++ u_3) ++ t)) rfl) ?_
  refine JL.nil ?_
  refine JQ.seq ?_
  refine JC.ret ?_
  refine Done.one (.inl rfl) rfl (RV.tmp (v := str ((h ++ u_3) ++ t)) rfl) (List.nil_sublist _) ?_
  exact ⟨((h ++ u_3) ++ t), (by simp only [keyNum, e_1, if_true, if_false, Bool.false_eq_true, Bool.not_true, Bool.not_false]; (repeat (first | rw [if_pos (by omega)] | rw [if_neg (by omega)])); all_goals (first | rfl | simp only [if_true, if_false, Bool.false_eq_true, Bool.not_true, Bool.not_false, e_1])), (by first | omega | (simp only [List.length_append, List.length_cons, List.length_nil, List.length_take, List.length_drop]; omega)), rfl, rfl⟩

theorem N_procKey {tb : Nat} (id : Int) (t : Str) (hid : -9223372036854775808 ≤ id ∧ id ≤ 9223372036854775807) (ht : t.length ≤ tb) (hq : tb ≤ 900000) :
    Ct Tryz.prog 266 [.int .i64 id, str t] ([]) (fun _ => True) (fun v A' => ∃ r0, keyNum ([114, 47] : Str) id t = r0 ∧ r0.length ≤ 2 + 21 + tb ∧ v = str r0 ∧ A' = []) := by
  refine Ct.intro Tryz.func266 rfl Tryz.ntmps266 (Nat.le_of_ble_eq_true rfl) fun w0 hpre => ?_
  refine JC.seq ?_
  refine JC.region ?_
  refine JL.pure rfl (PO.assign (v := str []) rfl) ?_
  refine JL.nil ?_
  refine JQ.seq ?_
  refine JC.seq ?_
  refine JC.region ?_
  refine JL.pure rfl (PO.move (v := .int .i64 id) rfl) ?_
  refine JL.pure rfl (PO.move (v := str t) rfl) ?_
  refine JL.op rfl (JO.call [] Tryz.call215 rfl (N_keyNum [114, 47] id t (show List.length ([114, 47] : Str) ≤ 2 by decide) (by omega) (Nat.le_refl _) (by omega)) rfl (fun _ _ => trivial)) ?_
  rintro _ _ ⟨_, ⟨u_3, e_1, f_4, rfl, rfl⟩, rfl⟩
  refine JL.pure rfl (PO.assign (v := str u_3) rfl) ?_
  refine JL.nil ?_
  refine JQ.seq ?_
  refine JC.ret ?_
  refine Done.one (.inl rfl) rfl (RV.tmp (v := str u_3) rfl) (List.nil_sublist _) ?_
  exact ⟨u_3, (by simp only [if_true, e_1, if_true, if_false, Bool.false_eq_true, Bool.not_true, Bool.not_false]; (repeat (first | rw [if_pos (by omega)] | rw [if_neg (by omega)])); all_goals (first | rfl | simp only [if_true, if_false, Bool.false_eq_true, Bool.not_true, Bool.not_false, e_1])), (by first | omega | (simp only [List.length_append, List.length_cons, List.length_nil, List.length_take, List.length_drop]; omega)), rfl, rfl⟩

theorem N_signalKey {tb : Nat} (id : Int) (t : Str) (hid : -9223372036854775808 ≤ id ∧ id ≤ 9223372036854775807) (ht : t.length ≤ tb) (hq : tb ≤ 900000) :
    Ct Tryz.prog 269 [.int .i64 id, str t] ([]) (fun _ => True) (fun v A' => ∃ r0, keyNum ([103, 47] : Str) id t = r0 ∧ r0.length ≤ 2 + 21 + tb ∧ v = str r0 ∧ A' = []) := by
  refine Ct.intro Tryz.func269 rfl Tryz.ntmps269 (Nat.le_of_ble_eq_true rfl) fun w0 hpre => ?_
  refine JC.seq ?_
  refine JC.region ?_
  refine JL.pure rfl (PO.assign (v := str []) rfl) ?_
  refine JL.nil ?_
  refine JQ.seq ?_
  refine JC.seq ?_
  refine JC.region ?_
  refine JL.pure rfl (PO.move (v := .int .i64 id) rfl) ?_
  refine JL.pure rfl (PO.move (v := str t) rfl) ?_
  refine JL.op rfl (JO.call [] Tryz.call215 rfl (N_keyNum [103, 47] id t (show List.length ([103, 47] : Str) ≤ 2 by decide) (by omega) (Nat.le_refl _) (by omega)) rfl (fun _ _ => trivial)) ?_
  rintro _ _ ⟨_, ⟨u_3, e_1, f_4, rfl, rfl⟩, rfl⟩
  refine JL.pure rfl (PO.assign (v := str u_3) rfl) ?_
  refine JL.nil ?_
  refine JQ.seq ?_
  refine JC.ret ?_
  refine Done.one (.inl rfl) rfl (RV.tmp (v := str u_3) rfl) (List.nil_sublist _) ?_
  exact ⟨u_3, (by simp only [if_true, e_1, if_true, if_false, Bool.false_eq_true, Bool.not_true, Bool.not_false]; (repeat (first | rw [if_pos (by omega)] | rw [if_neg (by omega)])); all_goals (first | rfl | simp only [if_true, if_false, Bool.false_eq_true, Bool.not_true, Bool.not_false, e_1])), (by first | omega | (simp only [List.length_append, List.length_cons, List.length_nil, List.length_take, List.length_drop]; omega)), rfl, rfl⟩

theorem N_l09Key {tb : Nat} (id : Int) (t : Str) (hid : -9223372036854775808 ≤ id ∧ id ≤ 9223372036854775807) (ht : t.length ≤ tb) (hq : tb ≤ 900000) :
    Ct Tryz.prog 267 [.int .i64 id, str t] ([]) (fun _ => True) (fun v A' => ∃ r0, keyNum ([114, 47] : Str) id t = r0 ∧ r0.length ≤ 2 + 21 + tb ∧ v = str r0 ∧ A' = []) := by
  refine Ct.intro Tryz.func267 rfl Tryz.ntmps267 (Nat.le_of_ble_eq_true rfl) fun w0 hpre => ?_
  refine JC.seq ?_
  refine JC.region ?_
  refine JL.pure rfl (PO.assign (v := str []) rfl) ?_
  refine JL.nil ?_
  refine JQ.seq ?_
  refine JC.seq ?_
  refine JC.region ?_
  refine JL.pure rfl (PO.move (v := .int .i64 id) rfl) ?_
  refine JL.pure rfl (PO.move (v := str t) rfl) ?_
  refine JL.op rfl (JO.call [] Tryz.call219 rfl (N_sKeyNum [114, 47] id t (show List.length ([114, 47] : Str) ≤ 2 by decide) (by omega) (Nat.le_refl _) (by omega)) rfl (fun _ _ => trivial)) ?_
  rintro _ _ ⟨_, ⟨u_3, e_1, f_4, rfl, rfl⟩, rfl⟩
  refine JL.pure rfl (PO.assign (v := str u_3) rfl) ?_
  refine JL.nil ?_
  refine JQ.seq ?_
  refine JC.ret ?_
  refine Done.one (.inl rfl) rfl (RV.tmp (v := str u_3) rfl) (List.nil_sublist _) ?_
  exact ⟨u_3, (by simp only [if_true, e_1, if_true, if_false, Bool.false_eq_true, Bool.not_true, Bool.not_false]; (repeat (first | rw [if_pos (by omega)] | rw [if_neg (by omega)])); all_goals (first | rfl | simp only [if_true, if_false, Bool.false_eq_true, Bool.not_true, Bool.not_false, e_1])), (by first | omega | (simp only [List.length_append, List.length_cons, List.length_nil, List.length_take, List.length_drop]; omega)), rfl, rfl⟩

theorem N_l10Key {tb : Nat} (id : Int) (t : Str) (hid : -9223372036854775808 ≤ id ∧ id ≤ 9223372036854775807) (ht : t.length ≤ tb) (hq : tb ≤ 900000) :
    Ct Tryz.prog 270 [.int .i64 id, str t] ([]) (fun _ => True) (fun v A' => ∃ r0, keyNum ([103, 47] : Str) id t = r0 ∧ r0.length ≤ 2 + 21 + tb ∧ v = str r0 ∧ A' = []) := by
  refine Ct.intro Tryz.func270 rfl Tryz.ntmps270 (Nat.le_of_ble_eq_true rfl) fun w0 hpre => ?_
  refine JC.seq ?_
  refine JC.region ?_
  refine JL.pure rfl (PO.assign (v := str []) rfl) ?_
  refine JL.nil ?_
  refine JQ.seq ?_
  refine JC.seq ?_
  refine JC.region ?_
  refine JL.pure rfl (PO.move (v := .int .i64 id) rfl) ?_
  refine JL.pure rfl (PO.move (v := str t) rfl) ?_
  refine JL.op rfl (JO.call [] Tryz.call219 rfl (N_sKeyNum [103, 47] id t (show List.length ([103, 47] : Str) ≤ 2 by decide) (by omega) (Nat.le_refl _) (by omega)) rfl (fun _ _ => trivial)) ?_
  rintro _ _ ⟨_, ⟨u_3, e_1, f_4, rfl, rfl⟩, rfl⟩
  refine JL.pure rfl (PO.assign (v := str u_3) rfl) ?_
  refine JL.nil ?_
  refine JQ.seq ?_
  refine JC.ret ?_
  refine Done.one (.inl rfl) rfl (RV.tmp (v := str u_3) rfl) (List.nil_sublist _) ?_
  exact ⟨u_3, (by simp only [if_true, e_1, if_true, if_false, Bool.false_eq_true, Bool.not_true, Bool.not_false]; (repeat (first | rw [if_pos (by omega)] | rw [if_neg (by omega)])); all_goals (first | rfl | simp only [if_true, if_false, Bool.false_eq_true, Bool.not_true, Bool.not_false, e_1])), (by first | omega | (simp only [List.length_append, List.length_cons, List.length_nil, List.length_take, List.length_drop]; omega)), rfl, rfl⟩

theorem N_l10Signal (id : Int) (k : Int) (hid : -9223372036854775808 ≤ id ∧ id ≤ 9223372036854775807) (hk : -9223372036854775808 ≤ k ∧ k ≤ 9223372036854775807) :
    Ct Tryz.prog 271 [.int .i64 id, .int .i64 k] ([]) (fun _ => True) (fun v A' => ∃ r0, (fun i k => keyNum (keyNum ([103, 47] : Str) i ([47, 113, 47] : Str)) k []) id k = r0 ∧ r0.length ≤ 60 ∧ v = str r0 ∧ A' = []) := by
  refine Ct.intro Tryz.func271 rfl Tryz.ntmps271 (Nat.le_of_ble_eq_true rfl) fun w0 hpre => ?_
  refine JC.seq ?_
  refine JC.region ?_
  refine JL.pure rfl (PO.assign (v := str []) rfl) ?_
  refine JL.nil ?_
  refine JQ.seq ?_
  refine JC.seq ?_
  refine JC.region ?_
  refine JL.pure rfl (PO.move (v := .int .i64 id) rfl) ?_
  refine JL.op rfl (JO.call [] Tryz.call270 rfl (N_l10Key id [47, 113, 47] (by omega) (show List.length ([47, 113, 47] : Str) ≤ 3 by decide) (by omega)) rfl (fun _ _ => trivial)) ?_
  rintro _ _ ⟨_, ⟨u_3, e_1, f_4, rfl, rfl⟩, rfl⟩
  refine JL.pure rfl (PO.move (v := .int .i64 k) rfl) ?_
  refine JL.op rfl (JO.call [] Tryz.call219 rfl (N_sKeyNum u_3 k [] (Nat.le_refl _) (by omega) (show List.length ([] : Str) ≤ 0 by decide) (by omega)) rfl (fun _ _ => trivial)) ?_
  rintro _ _ ⟨_, ⟨u_7, e_5, f_8, rfl, rfl⟩, rfl⟩
  refine JL.pure rfl (PO.assign (v := str u_7) rfl) ?_
  refine JL.nil ?_
  refine JQ.seq ?_
  refine JC.ret ?_
  refine Done.one (.inl rfl) rfl (RV.tmp (v := str u_7) rfl) (List.nil_sublist _) ?_
  exact ⟨u_7, (by simp only [if_true, e_1, e_5, if_true, if_false, Bool.false_eq_true, Bool.not_true, Bool.not_false]; (repeat (first | rw [if_pos (by omega)] | rw [if_neg (by omega)])); all_goals (first | rfl | simp only [if_true, if_false, Bool.false_eq_true, Bool.not_true, Bool.not_false, e_1, e_5])), (by first | omega | (simp only [List.length_append, List.length_cons, List.length_nil, List.length_take, List.length_drop]; omega)), rfl, rfl⟩

end Go.Proofs.YtenfajgpdhgknaaGreatDoor

set_option linter.unusedSimpArgs false
set_option linter.unusedVariables false
set_option linter.unnecessarySimpa false
namespace Go.Proofs.YtenfajgpdhgknaaGreatDoor
open Go Go.RowKit

def underL (p : Str) : List Cell → List Str → List Str
  | [], out => out
  | c :: s, out => if prefixB c.1 p = true then underL p s (out ++ [c.1]) else underL p s out
theorem underL_app (p : Str) : ∀ (s : List Cell) (out : List Str), underL p s out = out ++ keysUnder s p
  | [], out => by simp [underL, keysUnder]
  | c :: s, out => by
    unfold underL
    cases h : prefixB c.1 p with
    | true => rw [if_pos rfl, underL_app p s]; simp [keysUnder, h]
    | false => rw [if_neg (by simp), underL_app p s]; simp [keysUnder, h]
theorem underL_nil (p : Str) (s : List Cell) : underL p s [] = keysUnder s p := by rw [underL_app]; rfl
theorem keysUnder_len (s : List Cell) (p : Str) : (keysUnder s p).length ≤ s.length := by
  unfold keysUnder
  rw [List.length_map]
  exact List.length_filter_le _ _
theorem begins_eq (s p : Str) : prefixB s p = (decide ((p.length : Int) ≤ s.length) && decide (s.take p.length = p)) := by
  unfold prefixB
  congr 1
  exact decide_eq_decide.2 (by omega)
theorem isKid_short {k : Str} (h : ¬ (5 : Int) ≤ (k.length : Int)) : MS.isKid k = false := by
  unfold MS.isKid
  rw [decide_eq_false (by omega)]; rfl
theorem isKid_short' {k : Str} (h : (k.length : Int) < 5) : MS.isKid k = false := isKid_short (by omega)
theorem isKid_yes {k : Str} (h : (5 : Int) ≤ (k.length : Int)) (h2 : k.drop (k.length - 2) = [47, 112]) : MS.isKid k = true := by
  unfold MS.isKid
  rw [decide_eq_true (by omega), decide_eq_true h2]; rfl
theorem isKid_no {k : Str} (h2 : ¬ k.drop (k.length - 2) = [47, 112]) : MS.isKid k = false := by
  unfold MS.isKid
  rw [decide_eq_false h2, Bool.and_false]
theorem cutSuf_kid {k u : Str} {b : Bool} (h : cutSuf k [47, 112] = (u, b)) (h5 : (5 : Int) ≤ (k.length : Int)) : MS.isKid k = b := by
  unfold cutSuf suffixB at h
  simp only [List.length_cons, List.length_nil] at h
  rw [decide_eq_true (by omega), Bool.true_and] at h
  by_cases h2 : k.drop (k.length - (0 + 1 + 1)) = [47, 112]
  · rw [isKid_yes h5 h2]
    simp [h2] at h
    exact h.2.symm
  · rw [isKid_no h2]
    simp [h2] at h
    exact h.2.symm
theorem cutSuf_kidT {k u : Str} (h : cutSuf k [47, 112] = (u, true)) (h5 : (5 : Int) ≤ (k.length : Int)) : k.take (k.length - 2) = u ∧ 3 ≤ u.length := by
  unfold cutSuf at h
  split at h
  · simp only [Prod.mk.injEq, and_true] at h
    refine ⟨h, ?_⟩
    rw [← h, List.length_take]
    simp only [List.length_cons, List.length_nil]
    omega
  · simp at h
theorem drop_take2 (k : Str) (n : Nat) : (k.take n).drop 2 = (k.drop 2).take (n - 2) := by rw [List.drop_take]
end Go.Proofs.YtenfajgpdhgknaaGreatDoor

set_option linter.unusedSimpArgs false
set_option linter.unusedVariables false
set_option linter.unnecessarySimpa false
namespace Go.Proofs.YtenfajgpdhgknaaGreatDoor
open Go Go.RowKit
attribute [local irreducible] JL JC JQ JO LO PO JA JX Ct

theorem P_num (x : MA) (m : MS) {S T : Nat} (hk : m.ok S T) (hS : S ≤ 49000000) (hT : T ≤ 49000000) (key : Str) :
    Ct Tryz.prog 197 [mv x m, str key] ([]) (fun w => seesM w x m) (fun v A' => ∃ x' m' r0, MS.num m key = (m', r0) ∧ m'.ok (S) (T + 1) ∧ (0 ≤ r0 ∧ r0 ≤ 999) ∧ v = .tuple #[mv x' m', .int .i64 r0] ∧ A' = mr x' m') := by
  refine Ct.intro Tryz.func197 rfl Tryz.ntmps197 (Nat.le_of_ble_eq_true rfl) fun w0 hpre => ?_
  have hs_x_a0 : Sees w0 _ _ _ _ := hpre.1
  have hs_x_a1 : Sees w0 _ _ _ _ := hpre.2.1
  have hs_x_a2 : Sees w0 _ _ _ _ := hpre.2.2
  refine JC.seq ?_
  refine JC.region ?_
  refine JL.op rfl (JO.box (cs := [.slice x.a0 m.s.length x.c0, .slice x.a1 m.r.length x.c1, .slice x.a2 m.w.length x.c2]) rfl rfl) ?_
  rintro _ _ ⟨b_1, rfl, rfl⟩
  refine JL.op rfl (JO.alloc (z := .agg #[.slice none 0 0, .slice none 0 0, .slice none 0 0]) (cs := [.slice none 0 0, .slice none 0 0, .slice none 0 0]) Tryz.zeroValue32 rfl) ?_
  rintro _ _ ⟨b_2, rfl, rfl⟩
  refine JL.pure rfl (PO.assign (v := .int .i64 0) rfl) ?_
  refine JL.nil ?_
  refine JQ.seq ?_
  refine JC.seq ?_
  refine JC.region ?_
  refine JL.ld rfl (LO.loadK 1 (vs := [.slice x.a0 m.s.length x.c0, .slice x.a1 m.r.length x.c1, .slice x.a2 m.w.length x.c2]) rfl rfl Tryz.isAgg32 Tryz.sizeOf32 rfl rfl) ?_
  refine JL.op rfl (JO.call [] Tryz.call127 rfl (N_clone x m hk (by omega) (by omega)) rfl (fun w hw => ⟨hw.seeOut_ hs_x_a0 (fun _ _ => List.not_mem_nil), hw.seeOut_ hs_x_a1 (fun _ _ => List.not_mem_nil), hw.seeOut_ hs_x_a2 (fun _ _ => List.not_mem_nil)⟩)) ?_
  rintro _ _ ⟨_, ⟨x_5, m_6, rfl, k_4, rfl, rfl⟩, rfl⟩
  refine JL.op rfl (JO.store 4 (vs := [.slice x_5.a0 m.s.length x_5.c0, .slice x_5.a1 m.r.length x_5.c1, .slice x_5.a2 m.w.length x_5.c2]) (cs' := [.slice x_5.a0 m.s.length x_5.c0, .slice x_5.a1 m.r.length x_5.c1, .slice x_5.a2 m.w.length x_5.c2]) rfl rfl rfl rfl Tryz.sizeOf32 rfl rfl (Nat.le_of_ble_eq_true rfl) rfl) ?_
  rintro _ _ rfl
  refine JL.nil ?_
  refine JQ.seq ?_
  refine JC.seq ?_
  refine JC.region ?_
  refine JL.pure rfl (PO.move (v := str key) rfl) ?_
  refine JL.op rfl (JO.call [4, 0, 0, 0] Tryz.call170 rfl (N_num b_1 x_5 m k_4 (by omega) (by omega) key) rfl (fun _ _ => trivial)) ?_
  rintro _ _ ⟨_, ⟨x_9, m_10, n_11, e_7, k_8, f_12, rfl, rfl⟩, rfl⟩
  refine JL.pure rfl (PO.assign (v := .int .i64 n_11) rfl) ?_
  refine JL.nil ?_
  refine JQ.seq ?_
  refine JC.seq ?_
  refine JC.region ?_
  refine JL.ld rfl (LO.loadK 0 (vs := [.slice x_9.a0 m_10.s.length x_9.c0, .slice x_9.a1 m_10.r.length x_9.c1, .slice x_9.a2 m_10.w.length x_9.c2]) rfl rfl Tryz.isAgg32 Tryz.sizeOf32 rfl rfl) ?_
  refine JL.pure rfl (PO.move (v := .int .i64 n_11) rfl) ?_
  refine JL.op rfl (JO.store 4 (vs := [.slice x_9.a0 m_10.s.length x_9.c0, .slice x_9.a1 m_10.r.length x_9.c1, .slice x_9.a2 m_10.w.length x_9.c2]) (cs' := [.slice x_9.a0 m_10.s.length x_9.c0, .slice x_9.a1 m_10.r.length x_9.c1, .slice x_9.a2 m_10.w.length x_9.c2]) rfl rfl rfl rfl Tryz.sizeOf32 rfl rfl (Nat.le_of_ble_eq_true rfl) rfl) ?_
  rintro _ _ rfl
  refine JL.pure rfl (PO.assign (v := .int .i64 n_11) rfl) ?_
  refine JL.nil ?_
  refine JQ.seq ?_
  refine JC.ret ?_
  refine JQ.perm (pick_perm [1, 1, 1] (A := [rC x_9.a0 x_9.c0 m_10.s, rS x_9.a1 x_9.c1 m_10.r, rS x_9.a2 x_9.c2 m_10.w]) (F := [mb b_1 x_9 m_10, mb b_2 x_9 m_10]) rfl).symm ?_
  refine Done.two (.inl rfl) rfl (RV.cell1 (LO.loadK 4 (vs := [.slice x_9.a0 m_10.s.length x_9.c0, .slice x_9.a1 m_10.r.length x_9.c1, .slice x_9.a2 m_10.w.length x_9.c2]) rfl rfl Tryz.isAgg32 Tryz.sizeOf32 rfl rfl) ⟨_, rfl⟩) (RV.tmp (v := .int .i64 n_11) rfl) (List.sublist_append_left [rC x_9.a0 x_9.c0 m_10.s, rS x_9.a1 x_9.c1 m_10.r, rS x_9.a2 x_9.c2 m_10.w] [mb b_1 x_9 m_10, mb b_2 x_9 m_10]) ?_
  exact ⟨x_9, m_10, n_11, (by simp only [if_true, e_7, if_true, if_false, Bool.false_eq_true, Bool.not_true, Bool.not_false]; (repeat (first | rw [if_pos (by omega)] | rw [if_neg (by omega)])); all_goals (first | rfl | simp only [if_true, if_false, Bool.false_eq_true, Bool.not_true, Bool.not_false, e_7])), (k_8.mono (by omega) (by omega)), (by first | omega | (simp only [List.length_append, List.length_cons, List.length_nil, List.length_take, List.length_drop]; omega)), rfl, rfl⟩

theorem N_begins (s : Str) (p : Str) (hs : s.length ≤ 1000000000000) (hp : p.length ≤ 1000000000000) :
    Ct Tryz.prog 153 [str s, str p] ([]) (fun _ => True) (fun v A' => ∃ r0, prefixB s p = r0 ∧ v = .bool r0 ∧ A' = []) := by
  refine Ct.intro Tryz.func153 rfl Tryz.ntmps153 (Nat.le_of_ble_eq_true rfl) fun w0 hpre => ?_
  refine JC.seq ?_
  refine JC.region ?_
  refine JL.pure rfl (PO.assign (v := .bool false) rfl) ?_
  refine JL.nil ?_
  refine JQ.seq ?_
  refine JC.seq ?_
  refine JC.region ?_
  refine JL.pure rfl (PO.move (v := str s) rfl) ?_
  refine JL.pure rfl (PO.lenS Tryz.underlying9 rfl) ?_
  refine JL.pure rfl (PO.move (v := str p) rfl) ?_
  refine JL.pure rfl (PO.lenS Tryz.underlying9 rfl) ?_
  refine JL.pure rfl (PO.geq rfl rfl) ?_
  refine JL.pure rfl (PO.move (v := .bool (decide ((p.length : Int) ≤ (s.length : Int)))) rfl) ?_
  by_cases h_1 : (p.length : Int) ≤ (s.length : Int)
  · skip
    refine JL.guardOn rfl rfl rfl (congrArg Value.bool (decide_eq_true h_1)) (JO.ofLO (LO.pure (PO.move (v := str s) rfl))) ?_
    rintro _ _ ⟨rfl, rfl⟩
    refine JL.guardOn rfl rfl rfl (congrArg Value.bool (decide_eq_true h_1)) (JO.ofLO (LO.pure (PO.move (v := str p) rfl))) ?_
    rintro _ _ ⟨rfl, rfl⟩
    refine JL.guardOn rfl rfl rfl (congrArg Value.bool (decide_eq_true h_1)) (JO.ofLO (LO.pure (PO.lenS Tryz.underlying9 rfl))) ?_
    rintro _ _ ⟨rfl, rfl⟩
    refine JL.guardOn rfl rfl rfl (congrArg Value.bool (decide_eq_true h_1)) (JO.ofLO (LO.pure (PO.sliceSh (j := p.length) Tryz.underlying9 rfl rfl (by omega)))) ?_
    rintro _ _ ⟨rfl, rfl⟩
    refine JL.guardOn rfl rfl rfl (congrArg Value.bool (decide_eq_true h_1)) (JO.ofLO (LO.pure (PO.move (v := str p) rfl))) ?_
    rintro _ _ ⟨rfl, rfl⟩
    refine JL.guardOn rfl rfl rfl (congrArg Value.bool (decide_eq_true h_1)) (JO.ofLO (LO.pure (PO.eqlS rfl rfl))) ?_
    rintro _ _ ⟨rfl, rfl⟩
    refine JL.pure rfl (PO.pickT (v := .bool (decide ((s.take p.length) = p))) (congrArg Value.bool (decide_eq_true h_1)) rfl) ?_
    refine JL.pure rfl (PO.assign (v := .bool (decide ((s.take p.length) = p))) rfl) ?_
    refine JL.nil ?_
    refine JQ.seq ?_
    refine JC.ret ?_
    refine Done.one (.inl rfl) rfl (RV.tmp (v := .bool (decide ((s.take p.length) = p))) rfl) (List.nil_sublist _) ?_
    exact ⟨(decide ((s.take p.length) = p)), (by rw [begins_eq]; first | (simp_all; done) | (simp_all; intros; omega)), rfl, rfl⟩
  · skip
    refine JL.guardOff (b := false) rfl rfl rfl (congrArg Value.bool (decide_eq_false h_1)) ?_
    refine JL.guardOff (b := false) rfl rfl rfl (congrArg Value.bool (decide_eq_false h_1)) ?_
    refine JL.guardOff (b := false) rfl rfl rfl (congrArg Value.bool (decide_eq_false h_1)) ?_
    refine JL.guardOff (b := false) rfl rfl rfl (congrArg Value.bool (decide_eq_false h_1)) ?_
    refine JL.guardOff (b := false) rfl rfl rfl (congrArg Value.bool (decide_eq_false h_1)) ?_
    refine JL.guardOff (b := false) rfl rfl rfl (congrArg Value.bool (decide_eq_false h_1)) ?_
    refine JL.pure rfl (PO.pickF (v := .bool false) (congrArg Value.bool (decide_eq_false h_1)) rfl) ?_
    refine JL.pure rfl (PO.assign (v := .bool false) rfl) ?_
    refine JL.nil ?_
    refine JQ.seq ?_
    refine JC.ret ?_
    refine Done.one (.inl rfl) rfl (RV.tmp (v := .bool false) rfl) (List.nil_sublist _) ?_
    exact ⟨false, (by rw [begins_eq]; first | (simp_all; done) | (simp_all; intros; omega)), rfl, rfl⟩

theorem N_ikeysUnder (sa : Option Addr) (sc : Nat) (s : List Cell) (p : Str) (hs : s.length ≤ 1000000000) (hp : p.length ≤ 1000000000) :
    Ct Tryz.prog 284 [.slice sa s.length sc, str p] ([]) (fun w => Sees w (.slice sa s.length sc) 2 s.length (s.flatMap encC)) (fun v A' => ∃ r0a r0c r0, keysUnder s p = r0 ∧ r0.length ≤ s.length ∧ v = .slice r0a r0.length r0c ∧ A' = [rS r0a r0c r0]) := by
  refine Ct.intro Tryz.func284 rfl Tryz.ntmps284 (Nat.le_of_ble_eq_true rfl) fun w0 hpre => ?_
  have hs_sa : Sees w0 _ _ _ _ := hpre
  refine JC.seq ?_
  refine JC.region ?_
  refine JL.pure rfl (PO.assign (v := .slice none 0 0) rfl) ?_
  refine JL.nil ?_
  refine JQ.seq ?_
  refine JC.seq ?_
  refine JC.region ?_
  refine JL.pure rfl (PO.assign (v := .slice none 0 0) rfl) ?_
  refine JL.nil ?_
  refine JQ.seq ?_
  refine JC.seq ?_
  refine JC.seq ?_
  refine JC.region ?_
  refine JL.pure rfl (PO.move (v := .slice sa s.length sc) rfl) ?_
  refine JL.pure rfl (PO.lenV Tryz.underlying29 rfl) ?_
  refine JL.pure rfl (PO.move (v := .int .i64 0) rfl) ?_
  refine JL.nil ?_
  refine JQ.seq ?_
  refine JC.block ?_
  refine JC.nilRow 9 1 ?_
  refine JC.loop (fun k_ e_ L_ => ∃ j : Nat, ∃ out_a : Option Addr, ∃ out_c : Nat, ∃ out_ : List Str, (j ≤ s.length) ∧ (out_.length ≤ j) ∧ (underL p (s.drop j) out_ = underL p s ([] : List Str)) ∧ e_ 1 = str p ∧ e_ 4 = .slice none 0 0 ∧ e_ 5 = .slice out_a out_.length out_c ∧ e_ 8 = .slice sa s.length sc ∧ e_ 9 = .int .i64 ((s.length : Nat) : Int) ∧ e_ 10 = .int .i64 ((j : Nat) : Int) ∧ L_ = [rS out_a out_c out_] ∧ k_ = s.length - j) _ ⟨0, none, 0, ([] : List Str), by omega, (by first | omega | (simp only [List.length_append, List.length_cons, List.length_nil, List.length_take, List.length_drop]; omega)), rfl, rfl, rfl, rfl, rfl, rfl, rfl, rfl, rfl⟩ ?_
  rintro _ e_1 _ ⟨j, out_a, out_c, out_, hj, ho, hR, he_2, he_3, he_4, he_5, he_6, he_7, rfl, rfl⟩
  refine JC.seq ?_
  refine JC.region ?_
  refine JL.pure rfl (PO.lss he_7 he_6) ?_
  refine JL.nil ?_
  refine JQ.seq ?_
  refine JC.seq ?_
  by_cases h_8 : ((j : Nat) : Int) < ((s.length : Nat) : Int)
  · skip
    have hlt : j < s.length := by omega
    refine JC.condT (congrArg Value.bool (decide_eq_true h_8)) ?_
    refine JC.skip ?_
    refine JQ.seq ?_
    refine JC.seq ?_
    refine JC.block ?_
    refine JC.seq ?_
    refine JC.region ?_
    obtain ⟨hr_9, hr_9b, -⟩ := sees_some hs_sa (by omega)
    refine JL.pure rfl (PO.indexAddrV (i := j) Tryz.underlying29 Tryz.sizeOf113 hr_9 hr_9b he_5 he_7 (by omega)) ?_
    refine JL.ld rfl (LO.loadSK (vs := [str ((s.getD j c0).1), str ((s.getD j c0).2)]) hs_sa (fun _ _ => List.not_mem_nil) rfl Tryz.isAgg113 Tryz.sizeOf113 (atC (by omega)) rfl (by decide)) ?_
    refine JL.op rfl (JO.alloc (z := .agg #[str [], str []]) (cs := [str [], str []]) Tryz.zeroValue113 rfl) ?_
    rintro _ _ ⟨b_10, rfl, rfl⟩
    refine JL.op rfl (JO.store 0 (vs := [str ((s.getD j c0).1), str ((s.getD j c0).2)]) (cs' := [str ((s.getD j c0).1), str ((s.getD j c0).2)]) rfl rfl rfl rfl Tryz.sizeOf113 rfl rfl (Nat.le_of_ble_eq_true rfl) rfl) ?_
    rintro _ _ rfl
    refine JL.nil ?_
    refine JQ.seq ?_
    refine JC.seq ?_
    refine JC.region ?_
    refine JL.pure rfl (PO.fieldAddr fo113_0 rfl) ?_
    refine JL.ld rfl (LO.load1 0 (v := str ((s.getD j c0).1)) rfl rfl Tryz.isAgg9 rfl) ?_
    refine JL.pure rfl (PO.move (v := str p) he_2) ?_
    refine JL.op rfl (JO.call [] Tryz.call304 rfl (N_hasPrefix ((s.getD j c0).1) p) rfl (fun _ _ => trivial)) ?_
    rintro _ _ ⟨_, ⟨b_13, e_11, rfl, rfl⟩, rfl⟩
    refine JL.nil ?_
    refine JQ.seq ?_
    rcases Bool.eq_false_or_eq_true (b_13) with h_14 | h_14
    · skip
      refine JC.condT (congrArg Value.bool h_14) ?_
      refine JC.region ?_
      refine JL.pure rfl (PO.move (v := .slice out_a out_.length out_c) he_4) ?_
      refine JL.pure rfl (PO.fieldAddr fo113_0 rfl) ?_
      refine JL.ld rfl (LO.load1 0 (v := str ((s.getD j c0).1)) rfl rfl Tryz.isAgg9 rfl) ?_
      refine JL.op rfl (JO.buildSlice (ps := [(0, str ((s.getD j c0).1))]) (cur := #[str ((s.getD j c0).1)]) Tryz.underlying23 Tryz.sizeOf9 Tryz.zeroValue9 rfl (by kernel_rfl) (by decide) (by decide)) ?_
      rintro _ _ ⟨a_15, rfl, rfl⟩
      refine JL.op rfl (JO.append' 2 (q := 1) (news := ([(s.getD j c0).1] : List Str).map str) (n' := (out_ ++ ([(s.getD j c0).1] : List Str)).length) (cs' := (out_ ++ ([(s.getD j c0).1] : List Str)).map str) rfl Tryz.underlying23 Tryz.underlying23 Tryz.typeInfo9 rfl (by' := 16) rfl rfl rfl rfl rfl (fun w hw => Src.sees (hw.see (i := 0) rfl) (oneS _)) (by (try simp only [List.length_append, List.length_cons, List.length_nil, List.length_take, List.length_drop]); omega) (by (try simp only [List.length_append, List.length_cons, List.length_nil, List.length_take, List.length_drop]); omega) (by simp only [List.length_append, List.length_take, List.length_drop, List.length_cons, List.length_nil] <;> first | rfl | omega) (by simp only [List.map_append])) ?_
      rintro _ _ ⟨a_16, c_17, rfl, rfl⟩
      refine JL.pure rfl (PO.assign (v := .slice a_16 ((out_ ++ ([(s.getD j c0).1] : List Str)).length) c_17) rfl) ?_
      refine JL.nil ?_
      refine JQ.blockN ?_
      refine JQ.seq ?_
      refine JC.region ?_
      refine JL.pure rfl (PO.add (c := ((j + 1 : Nat) : Int)) he_7 rfl (wr (by omega))) ?_
      refine JL.pure rfl (PO.move (v := .int .i64 ((j + 1 : Nat) : Int)) rfl) ?_
      refine JL.nil ?_
      refine JQ.pick [2] (A := [rS a_16 c_17 (out_ ++ ([(s.getD j c0).1] : List Str))]) rfl ?_
      refine JQ.again (s.length - (j + 1)) (by omega) ⟨j + 1, a_16, c_17, (out_ ++ ([(s.getD j c0).1] : List Str)), by omega, (by first | omega | (simp only [List.length_append, List.length_cons, List.length_nil, List.length_take, List.length_drop]; omega)), (by rw [drop_at (getD_some (d := c0) hlt)] at hR; simp only [underL, h_8, e_11, h_14, if_true, if_false, Bool.false_eq_true, Bool.not_true, Bool.not_false] at hR; (repeat (first | rw [if_pos (by omega)] at hR | rw [if_neg (by omega)] at hR)); exact hR), he_2, he_3, rfl, he_5, he_6, rfl, rfl, rfl⟩
    · skip
      refine JC.condF (congrArg Value.bool h_14) ?_
      refine JC.skip ?_
      refine JQ.blockN ?_
      refine JQ.seq ?_
      refine JC.region ?_
      refine JL.pure rfl (PO.add (c := ((j + 1 : Nat) : Int)) he_7 rfl (wr (by omega))) ?_
      refine JL.pure rfl (PO.move (v := .int .i64 ((j + 1 : Nat) : Int)) rfl) ?_
      refine JL.nil ?_
      refine JQ.pick [1] (A := [rS out_a out_c out_]) rfl ?_
      refine JQ.again (s.length - (j + 1)) (by omega) ⟨j + 1, out_a, out_c, out_, by omega, (by first | omega | (simp only [List.length_append, List.length_cons, List.length_nil, List.length_take, List.length_drop]; omega)), (by rw [drop_at (getD_some (d := c0) hlt)] at hR; simp only [underL, h_8, e_11, h_14, if_true, if_false, Bool.false_eq_true, Bool.not_true, Bool.not_false] at hR; (repeat (first | rw [if_pos (by omega)] at hR | rw [if_neg (by omega)] at hR)); exact hR), he_2, he_3, he_4, he_5, he_6, rfl, rfl, rfl⟩
  · skip
    rw [List.drop_of_length_le (by omega)] at hR
    simp only [underL] at hR
    have hE := hR.symm
    refine JC.condF (congrArg Value.bool (decide_eq_false h_8)) ?_
    refine JC.exit ?_
    refine JQ.thenExit ?_
    refine JQ.thenExit ?_
    refine JQ.blockE ?_
    refine JQ.seq ?_
    refine JC.seq ?_
    refine JC.region ?_
    refine JL.pure rfl (PO.move (v := .slice out_a out_.length out_c) he_4) ?_
    refine JL.pure rfl (PO.assign (v := .slice out_a out_.length out_c) rfl) ?_
    refine JL.nil ?_
    refine JQ.seq ?_
    refine JC.ret ?_
    refine Done.one (.inl rfl) rfl (RV.tmp (v := .slice out_a out_.length out_c) rfl) (List.Sublist.refl _) ?_
    exact ⟨out_a, out_c, out_, (by rw [← underL_nil]; exact hE), (by first | omega | (simp only [List.length_append, List.length_cons, List.length_nil, List.length_take, List.length_drop]; omega)), rfl, rfl⟩

theorem N_skeysUnder (sa : Option Addr) (sc : Nat) (s : List Cell) (p : Str) (hs : s.length ≤ 1000000000) (hp : p.length ≤ 1000000000) (hlong : ∀ j, j < s.length → (s.getD j c0).1.length ≤ 1000000000) :
    Ct Tryz.prog 44 [.slice sa s.length sc, str p] ([]) (fun w => Sees w (.slice sa s.length sc) 2 s.length (s.flatMap encC)) (fun v A' => ∃ r0a r0c r0, keysUnder s p = r0 ∧ r0.length ≤ s.length ∧ v = .slice r0a r0.length r0c ∧ A' = [rS r0a r0c r0]) := by
  refine Ct.intro Tryz.func44 rfl Tryz.ntmps44 (Nat.le_of_ble_eq_true rfl) fun w0 hpre => ?_
  have hs_sa : Sees w0 _ _ _ _ := hpre
  refine JC.seq ?_
  refine JC.region ?_
  refine JL.pure rfl (PO.assign (v := .slice none 0 0) rfl) ?_
  refine JL.nil ?_
  refine JQ.seq ?_
  refine JC.seq ?_
  refine JC.region ?_
  refine JL.op rfl (JO.buildSlice (ps := []) (cur := #[]) Tryz.underlying23 Tryz.sizeOf9 Tryz.zeroValue9 rfl (by kernel_rfl) (by decide) (by decide)) ?_
  rintro _ _ ⟨a_1, rfl, rfl⟩
  refine JL.pure rfl (PO.assign (v := .slice a_1 0 0) rfl) ?_
  refine JL.nil ?_
  refine JQ.seq ?_
  refine JC.seq ?_
  refine JC.seq ?_
  refine JC.region ?_
  refine JL.pure rfl (PO.assign (v := .int .i64 0) rfl) ?_
  refine JL.nil ?_
  refine JQ.seq ?_
  refine JC.block ?_
  refine JC.loop (fun k_ e_ L_ => ∃ j : Nat, ∃ out_a : Option Addr, ∃ out_c : Nat, ∃ out_ : List Str, (j ≤ s.length) ∧ (out_.length ≤ j) ∧ (underL p (s.drop j) out_ = underL p s ([] : List Str)) ∧ e_ 0 = .slice sa s.length sc ∧ e_ 1 = str p ∧ e_ 4 = .slice none 0 0 ∧ e_ 5 = .slice out_a out_.length out_c ∧ e_ 6 = .int .i64 ((j : Nat) : Int) ∧ L_ = [rS out_a out_c out_] ∧ k_ = s.length - j) _ ⟨0, a_1, 0, ([] : List Str), by omega, (by first | omega | (simp only [List.length_append, List.length_cons, List.length_nil, List.length_take, List.length_drop]; omega)), rfl, rfl, rfl, rfl, rfl, rfl, rfl, rfl⟩ ?_
  rintro _ e_2 _ ⟨j, out_a, out_c, out_, hj, ho, hR, he_3, he_4, he_5, he_6, he_7, rfl, rfl⟩
  refine JC.seq ?_
  refine JC.seq ?_
  refine JC.region ?_
  refine JL.pure rfl (PO.move (v := .int .i64 ((j : Nat) : Int)) he_7) ?_
  refine JL.pure rfl (PO.move (v := .slice sa s.length sc) he_3) ?_
  refine JL.pure rfl (PO.lenV Tryz.underlying29 rfl) ?_
  refine JL.pure rfl (PO.lss rfl rfl) ?_
  refine JL.nil ?_
  refine JQ.seq ?_
  by_cases h_8 : ((j : Nat) : Int) < ((s.length : Nat) : Int)
  · skip
    have hlt : j < s.length := by omega
    have hlj := hlong j hlt
    refine JC.condT (congrArg Value.bool (decide_eq_true h_8)) ?_
    refine JC.skip ?_
    refine JQ.seq ?_
    refine JC.seq ?_
    refine JC.block ?_
    refine JC.seq ?_
    refine JC.region ?_
    refine JL.pure rfl (PO.move (v := .slice sa s.length sc) he_3) ?_
    refine JL.pure rfl (PO.move (v := .int .i64 ((j : Nat) : Int)) he_7) ?_
    obtain ⟨hr_9, hr_9b, -⟩ := sees_some hs_sa (by omega)
    refine JL.pure rfl (PO.indexAddrV (i := j) Tryz.underlying29 Tryz.sizeOf113 hr_9 hr_9b rfl rfl (by omega)) ?_
    refine JL.pure rfl (PO.fieldAddrE fo113_0 hr_9 rfl) ?_
    refine JL.ld rfl (LO.loadS1 (v := str ((s.getD j c0).1)) hs_sa (fun _ _ => List.not_mem_nil) rfl Tryz.isAgg9 (atC1 (by omega))) ?_
    refine JL.pure rfl (PO.move (v := str p) he_4) ?_
    refine JL.op rfl (JO.call [] Tryz.call153 rfl (N_begins ((s.getD j c0).1) p (by omega) (by omega)) rfl (fun _ _ => trivial)) ?_
    rintro _ _ ⟨_, ⟨b_12, e_10, rfl, rfl⟩, rfl⟩
    refine JL.nil ?_
    refine JQ.seq ?_
    rcases Bool.eq_false_or_eq_true (b_12) with h_13 | h_13
    · skip
      refine JC.condT (congrArg Value.bool h_13) ?_
      refine JC.region ?_
      refine JL.pure rfl (PO.move (v := .slice out_a out_.length out_c) he_6) ?_
      refine JL.pure rfl (PO.move (v := .slice sa s.length sc) he_3) ?_
      refine JL.pure rfl (PO.move (v := .int .i64 ((j : Nat) : Int)) he_7) ?_
      refine JL.pure rfl (PO.indexAddrV (i := j) Tryz.underlying29 Tryz.sizeOf113 hr_9 hr_9b rfl rfl (by omega)) ?_
      refine JL.pure rfl (PO.fieldAddrE fo113_0 hr_9 rfl) ?_
      refine JL.ld rfl (LO.loadS1 (v := str ((s.getD j c0).1)) hs_sa (fun _ _ => List.not_mem_nil) rfl Tryz.isAgg9 (atC1 (by omega))) ?_
      refine JL.op rfl (JO.buildSlice (ps := [(0, str ((s.getD j c0).1))]) (cur := #[str ((s.getD j c0).1)]) Tryz.underlying23 Tryz.sizeOf9 Tryz.zeroValue9 rfl (by kernel_rfl) (by decide) (by decide)) ?_
      rintro _ _ ⟨a_14, rfl, rfl⟩
      refine JL.op rfl (JO.append' 1 (q := 1) (news := ([(s.getD j c0).1] : List Str).map str) (n' := (out_ ++ ([(s.getD j c0).1] : List Str)).length) (cs' := (out_ ++ ([(s.getD j c0).1] : List Str)).map str) rfl Tryz.underlying23 Tryz.underlying23 Tryz.typeInfo9 rfl (by' := 16) rfl rfl rfl rfl rfl (fun w hw => Src.sees (hw.see (i := 0) rfl) (oneS _)) (by (try simp only [List.length_append, List.length_cons, List.length_nil, List.length_take, List.length_drop]); omega) (by (try simp only [List.length_append, List.length_cons, List.length_nil, List.length_take, List.length_drop]); omega) (by simp only [List.length_append, List.length_take, List.length_drop, List.length_cons, List.length_nil] <;> first | rfl | omega) (by simp only [List.map_append])) ?_
      rintro _ _ ⟨a_15, c_16, rfl, rfl⟩
      refine JL.pure rfl (PO.assign (v := .slice a_15 ((out_ ++ ([(s.getD j c0).1] : List Str)).length) c_16) rfl) ?_
      refine JL.nil ?_
      refine JQ.blockN ?_
      refine JQ.seq ?_
      refine JC.region ?_
      refine JL.pure rfl (PO.move (v := .int .i64 ((j : Nat) : Int)) he_7) ?_
      refine JL.pure rfl (PO.add (c := ((j + 1 : Nat) : Int)) rfl rfl (wr (by omega))) ?_
      refine JL.pure rfl (PO.assign (v := .int .i64 ((j + 1 : Nat) : Int)) rfl) ?_
      refine JL.nil ?_
      refine JQ.pick [1] (A := [rS a_15 c_16 (out_ ++ ([(s.getD j c0).1] : List Str))]) rfl ?_
      refine JQ.again (s.length - (j + 1)) (by omega) ⟨j + 1, a_15, c_16, (out_ ++ ([(s.getD j c0).1] : List Str)), by omega, (by first | omega | (simp only [List.length_append, List.length_cons, List.length_nil, List.length_take, List.length_drop]; omega)), (by rw [drop_at (getD_some (d := c0) hlt)] at hR; simp only [underL, h_8, e_10, h_13, if_true, if_false, Bool.false_eq_true, Bool.not_true, Bool.not_false] at hR; (repeat (first | rw [if_pos (by omega)] at hR | rw [if_neg (by omega)] at hR)); exact hR), he_3, he_4, he_5, rfl, rfl, rfl, rfl⟩
    · skip
      refine JC.condF (congrArg Value.bool h_13) ?_
      refine JC.skip ?_
      refine JQ.blockN ?_
      refine JQ.seq ?_
      refine JC.region ?_
      refine JL.pure rfl (PO.move (v := .int .i64 ((j : Nat) : Int)) he_7) ?_
      refine JL.pure rfl (PO.add (c := ((j + 1 : Nat) : Int)) rfl rfl (wr (by omega))) ?_
      refine JL.pure rfl (PO.assign (v := .int .i64 ((j + 1 : Nat) : Int)) rfl) ?_
      refine JL.nil ?_
      refine JQ.pick [0] (A := [rS out_a out_c out_]) rfl ?_
      refine JQ.again (s.length - (j + 1)) (by omega) ⟨j + 1, out_a, out_c, out_, by omega, (by first | omega | (simp only [List.length_append, List.length_cons, List.length_nil, List.length_take, List.length_drop]; omega)), (by rw [drop_at (getD_some (d := c0) hlt)] at hR; simp only [underL, h_8, e_10, h_13, if_true, if_false, Bool.false_eq_true, Bool.not_true, Bool.not_false] at hR; (repeat (first | rw [if_pos (by omega)] at hR | rw [if_neg (by omega)] at hR)); exact hR), he_3, he_4, he_5, he_6, rfl, rfl, rfl⟩
  · skip
    rw [List.drop_of_length_le (by omega)] at hR
    simp only [underL] at hR
    have hE := hR.symm
    refine JC.condF (congrArg Value.bool (decide_eq_false h_8)) ?_
    refine JC.exit ?_
    refine JQ.thenExit ?_
    refine JQ.thenExit ?_
    refine JQ.blockE ?_
    refine JQ.seq ?_
    refine JC.seq ?_
    refine JC.region ?_
    refine JL.pure rfl (PO.move (v := .slice out_a out_.length out_c) he_6) ?_
    refine JL.pure rfl (PO.assign (v := .slice out_a out_.length out_c) rfl) ?_
    refine JL.nil ?_
    refine JQ.seq ?_
    refine JC.ret ?_
    refine Done.one (.inl rfl) rfl (RV.tmp (v := .slice out_a out_.length out_c) rfl) (List.Sublist.refl _) ?_
    exact ⟨out_a, out_c, out_, (by rw [← underL_nil]; exact hE), (by first | omega | (simp only [List.length_append, List.length_cons, List.length_nil, List.length_take, List.length_drop]; omega)), rfl, rfl⟩

theorem N_under (p : Nat) (x : MA) (m : MS) {S T : Nat} (hk : m.ok S T) (hS : S ≤ 900000000) (hT : T ≤ 900000000) (p_ : Str) (hp_ : p_.length ≤ 100000000) :
    Ct Tryz.prog 260 [.pointer (some ⟨p, 0, none⟩), str p_] (mb p x m :: mr x m) (fun _ => True) (fun v A' => ∃ x' m' r0a r0c r0, MS.under m p_ = (m', r0) ∧ m'.ok (S) (T + 1) ∧ okL S p_.length r0 ∧ v = .slice r0a r0.length r0c ∧ A' = mb p x' m' :: mr x' m' ++ [rS r0a r0c r0]) := by
  obtain ⟨hk0, hk1, hk2, hk3⟩ := id hk
  refine Ct.intro Tryz.func260 rfl Tryz.ntmps260 (Nat.le_of_ble_eq_true rfl) fun w0 hpre => ?_
  refine JC.seq ?_
  refine JC.region ?_
  refine JL.pure rfl (PO.assign (v := .slice none 0 0) rfl) ?_
  refine JL.nil ?_
  refine JQ.seq ?_
  refine JC.seq ?_
  refine JC.region ?_
  refine JL.pure rfl (PO.move (v := .pointer (some ⟨p, 0, none⟩)) rfl) ?_
  refine JL.pure rfl (PO.move (v := .pointer (some ⟨p, 0, none⟩)) rfl) ?_
  refine JL.pure rfl (PO.nilCheck rfl) ?_
  refine JL.pure rfl (PO.fieldAddr fo32_1 rfl) ?_
  refine JL.pure rfl (PO.fieldAddr fo30_0 rfl) ?_
  refine JL.ld rfl (LO.load1 0 (v := .slice x.a1 m.r.length x.c1) rfl rfl Tryz.isAgg23 rfl) ?_
  refine JL.pure rfl (PO.move (v := str p_) rfl) ?_
  refine JL.pure rfl (PO.addS rfl rfl (by (try simp only [List.length_append, List.length_cons, List.length_nil, List.length_drop, List.length_take]); omega)) ?_
  refine JL.op rfl (JO.call [2] Tryz.call281 rfl (C_addSpan x.a1 x.c1 m.r (p_ ++ [42]) (by omega)) rfl (fun _ _ => trivial)) ?_
  rintro _ _ ⟨_, ⟨a_1, c_2, rfl, rfl⟩, rfl⟩
  refine JL.pure rfl (PO.nilCheck rfl) ?_
  refine JL.pure rfl (PO.fieldAddr fo32_1 rfl) ?_
  refine JL.pure rfl (PO.fieldAddr fo30_0 rfl) ?_
  refine JL.op rfl (JO.store 1 (vs := [.slice a_1 ((addSpan m.r (p_ ++ [42])).length) c_2]) (cs' := [.slice x.a0 m.s.length x.c0, .slice a_1 ((addSpan m.r (p_ ++ [42])).length) c_2, .slice x.a2 m.w.length x.c2]) rfl rfl rfl rfl Tryz.sizeOf23 rfl rfl (Nat.le_of_ble_eq_true rfl) rfl) ?_
  rintro _ _ rfl
  refine JL.nil ?_
  refine JQ.seq ?_
  refine JC.seq ?_
  refine JC.region ?_
  refine JL.pure rfl (PO.move (v := .pointer (some ⟨p, 0, none⟩)) rfl) ?_
  refine JL.pure rfl (PO.nilCheck rfl) ?_
  refine JL.pure rfl (PO.fieldAddr fo32_0 rfl) ?_
  refine JL.ld rfl (LO.load1 1 (v := .slice x.a0 m.s.length x.c0) rfl rfl Tryz.isAgg29 rfl) ?_
  refine JL.pure rfl (PO.move (v := str p_) rfl) ?_
  refine JL.op rfl (JO.call [] Tryz.call284 rfl (N_ikeysUnder x.a0 x.c0 m.s p_ (by have hl_ := hk.1; omega) (by omega)) rfl (fun w hw => hw.see (i := 2) rfl)) ?_
  rintro _ _ ⟨_, ⟨l_5a, l_5c, l_5, e_3, f_6, rfl, rfl⟩, rfl⟩
  refine JL.pure rfl (PO.assign (v := .slice l_5a l_5.length l_5c) rfl) ?_
  refine JL.nil ?_
  refine JQ.seq ?_
  refine JC.ret ?_
  refine JQ.perm (pick_perm [2, 2, 1, 1, 0] (A := [bk p 32 [.slice x.a0 m.s.length x.c0, .slice a_1 ((addSpan m.r (p_ ++ [42])).length) c_2, .slice x.a2 m.w.length x.c2], rC x.a0 x.c0 m.s, rS a_1 c_2 (addSpan m.r (p_ ++ [42])), rS x.a2 x.c2 m.w, rS l_5a l_5c l_5]) (F := []) rfl).symm ?_
  refine Done.one (.inl rfl) rfl (RV.tmp (v := .slice l_5a l_5.length l_5c) rfl) (List.sublist_append_left [bk p 32 [.slice x.a0 m.s.length x.c0, .slice a_1 ((addSpan m.r (p_ ++ [42])).length) c_2, .slice x.a2 m.w.length x.c2], rC x.a0 x.c0 m.s, rS a_1 c_2 (addSpan m.r (p_ ++ [42])), rS x.a2 x.c2 m.w, rS l_5a l_5c l_5] []) ?_
  subst e_3
  exact ⟨⟨x.a0, x.c0, a_1, c_2, x.a2, x.c2⟩, (m.under p_).1, l_5a, l_5c, _, rfl, hk.under p_, keysUnder_ok hk p_, rfl, rfl⟩

theorem N_sUnder (x : MA) (m : MS) {S T : Nat} (hk : m.ok S T) (hS : S ≤ 900000000) (hT : T ≤ 900000000) (p_ : Str) (hp_ : p_.length ≤ 100000000) :
    Ct Tryz.prog 261 [mv x m, str p_] (mr x m) (fun _ => True) (fun v A' => ∃ x' m' r0a r0c r0, MS.under m p_ = (m', r0) ∧ m'.ok (S) (T + 1) ∧ okL S p_.length r0 ∧ v = .tuple #[mv x' m', .slice r0a r0.length r0c] ∧ A' = mr x' m' ++ [rS r0a r0c r0]) := by
  obtain ⟨hk0, hk1, hk2, hk3⟩ := id hk
  refine Ct.intro Tryz.func261 rfl Tryz.ntmps261 (Nat.le_of_ble_eq_true rfl) fun w0 hpre => ?_
  refine JC.seq ?_
  refine JC.region ?_
  refine JL.op rfl (JO.box (cs := [.slice x.a0 m.s.length x.c0, .slice x.a1 m.r.length x.c1, .slice x.a2 m.w.length x.c2]) rfl rfl) ?_
  rintro _ _ ⟨b_1, rfl, rfl⟩
  refine JL.op rfl (JO.alloc (z := .agg #[.slice none 0 0, .slice none 0 0, .slice none 0 0]) (cs := [.slice none 0 0, .slice none 0 0, .slice none 0 0]) Tryz.zeroValue32 rfl) ?_
  rintro _ _ ⟨b_2, rfl, rfl⟩
  refine JL.pure rfl (PO.assign (v := .slice none 0 0) rfl) ?_
  refine JL.nil ?_
  refine JQ.seq ?_
  refine JC.seq ?_
  refine JC.region ?_
  refine JL.pure rfl (PO.fieldAddr fo32_1 rfl) ?_
  refine JL.pure rfl (PO.fieldAddr fo30_0 rfl) ?_
  refine JL.ld rfl (LO.load1 1 (v := .slice x.a1 m.r.length x.c1) rfl rfl Tryz.isAgg23 rfl) ?_
  refine JL.pure rfl (PO.move (v := str p_) rfl) ?_
  refine JL.pure rfl (PO.addS rfl rfl (by (try simp only [List.length_append, List.length_cons, List.length_nil, List.length_drop, List.length_take]); omega)) ?_
  refine JL.op rfl (JO.call [] Tryz.call279 rfl (C_sAddSpan x.a1 x.c1 m.r (p_ ++ [42]) (by omega)) rfl (fun w hw => hw.see (i := 3) rfl)) ?_
  rintro _ _ ⟨_, ⟨a_3, c_4, rfl, rfl⟩, rfl⟩
  refine JL.pure rfl (PO.fieldAddr fo32_1 rfl) ?_
  refine JL.pure rfl (PO.fieldAddr fo30_0 rfl) ?_
  refine JL.op rfl (JO.store 2 (vs := [.slice a_3 ((addSpan m.r (p_ ++ [42])).length) c_4]) (cs' := [.slice x.a0 m.s.length x.c0, .slice a_3 ((addSpan m.r (p_ ++ [42])).length) c_4, .slice x.a2 m.w.length x.c2]) rfl rfl rfl rfl Tryz.sizeOf23 rfl rfl (Nat.le_of_ble_eq_true rfl) rfl) ?_
  rintro _ _ rfl
  refine JL.nil ?_
  refine JQ.seq ?_
  refine JC.seq ?_
  refine JC.regionA [bk b_1 32 [.slice x.a0 m.s.length x.c0, .slice a_3 ((addSpan m.r (p_ ++ [42])).length) c_4, .slice x.a2 m.w.length x.c2]] 6 mixed (by simp) ?_
  refine JA.take 0 rfl (by kernel_rfl) (NP.th NP.body) (by kernel_rfl) (by kernel_rfl) (by kernel_rfl) rfl (LO.loadK 0 (vs := [.slice x.a0 m.s.length x.c0, .slice a_3 ((addSpan m.r (p_ ++ [42])).length) c_4, .slice x.a2 m.w.length x.c2]) rfl rfl Tryz.isAgg32 Tryz.sizeOf32 rfl rfl) ?_
  refine JA.takeP 1 rfl (by kernel_rfl) (NP.th NP.body) (by kernel_rfl) (by kernel_rfl) rfl (PO.fieldAddr fo32_0 rfl) ?_
  refine JA.take 2 rfl (by kernel_rfl) (NP.th NP.body) (by kernel_rfl) (by kernel_rfl) (by kernel_rfl) rfl (LO.load1 0 (v := .slice x.a0 m.s.length x.c0) rfl rfl Tryz.isAgg29 rfl) ?_
  refine JA.takeP 3 rfl (by kernel_rfl) (NP.th NP.body) (by kernel_rfl) (by kernel_rfl) rfl (PO.move (v := str p_) rfl) ?_
  refine JA.one (i := 4) (by kernel_rfl) ?_
  refine JX.op rfl rfl (JO.call [] Tryz.call44 rfl (N_skeysUnder x.a0 x.c0 m.s p_ (by have hl_ := hk.1; omega) (by omega) (fun j hj => Nat.le_trans (hk.2.2.2 _ (getD_mem hj)).1 (by decide))) rfl (fun w hw => hw.see (i := 3) rfl)) ?_
  rintro _ _ ⟨_, ⟨l_11a, l_11c, l_11, e_9, f_12, rfl, rfl⟩, rfl⟩
  refine ⟨(by simp), ?_⟩
  refine JA.one (i := 5) (by kernel_rfl) ?_
  refine JX.op rfl rfl (JO.store 2 (vs := [.slice x.a0 m.s.length x.c0, .slice a_3 ((addSpan m.r (p_ ++ [42])).length) c_4, .slice x.a2 m.w.length x.c2]) (cs' := [.slice x.a0 m.s.length x.c0, .slice a_3 ((addSpan m.r (p_ ++ [42])).length) c_4, .slice x.a2 m.w.length x.c2]) rfl rfl rfl rfl Tryz.sizeOf32 rfl rfl (Nat.le_of_ble_eq_true rfl) rfl) ?_
  rintro _ _ rfl
  refine ⟨(by simp), ?_⟩
  refine JA.takeP 6 rfl (by kernel_rfl) (NP.th NP.body) (by kernel_rfl) (by kernel_rfl) rfl (PO.assign (v := .slice l_11a l_11.length l_11c) rfl) ?_
  refine JA.done (by kernel_rfl) ?_
  refine JQ.seq ?_
  refine JC.ret ?_
  refine JQ.perm (pick_perm [4, 1, 4, 0] (A := [rC x.a0 x.c0 m.s, rS a_3 c_4 (addSpan m.r (p_ ++ [42])), rS x.a2 x.c2 m.w, rS l_11a l_11c l_11]) (F := [bk b_2 32 [.slice x.a0 m.s.length x.c0, .slice a_3 ((addSpan m.r (p_ ++ [42])).length) c_4, .slice x.a2 m.w.length x.c2], bk b_1 32 [.slice x.a0 m.s.length x.c0, .slice a_3 ((addSpan m.r (p_ ++ [42])).length) c_4, .slice x.a2 m.w.length x.c2], rS x.a1 x.c1 m.r]) rfl).symm ?_
  refine Done.two (.inl rfl) rfl (RV.cell1 (LO.loadK 4 (vs := [.slice x.a0 m.s.length x.c0, .slice a_3 ((addSpan m.r (p_ ++ [42])).length) c_4, .slice x.a2 m.w.length x.c2]) rfl rfl Tryz.isAgg32 Tryz.sizeOf32 rfl rfl) ⟨_, rfl⟩) (RV.tmp (v := .slice l_11a l_11.length l_11c) rfl) (List.sublist_append_left [rC x.a0 x.c0 m.s, rS a_3 c_4 (addSpan m.r (p_ ++ [42])), rS x.a2 x.c2 m.w, rS l_11a l_11c l_11] [bk b_2 32 [.slice x.a0 m.s.length x.c0, .slice a_3 ((addSpan m.r (p_ ++ [42])).length) c_4, .slice x.a2 m.w.length x.c2], bk b_1 32 [.slice x.a0 m.s.length x.c0, .slice a_3 ((addSpan m.r (p_ ++ [42])).length) c_4, .slice x.a2 m.w.length x.c2], rS x.a1 x.c1 m.r]) ?_
  subst e_9
  exact ⟨⟨x.a0, x.c0, a_3, c_4, x.a2, x.c2⟩, (m.under p_).1, l_11a, l_11c, _, rfl, hk.under p_, keysUnder_ok hk p_, rfl, rfl⟩

theorem M_wipe (x : MA) (m : MS) {S T : Nat} (hk : m.ok S T) (hS : S ≤ 400000000) (hT : T ≤ 400000000) (p_ : Str) (hp_ : p_.length ≤ 100000000) :
    Ct Tryz.prog 257 [mv x m, str p_] (mr x m) (fun _ => True) (fun v A' => ∃ x' m', MS.wipe' m p_ = m' ∧ m'.ok (S) (T + S + 1) ∧ v = mv x' m' ∧ A' = mr x' m') := by
  refine Ct.intro Tryz.func257 rfl Tryz.ntmps257 (Nat.le_of_ble_eq_true rfl) fun w0 hpre => ?_
  refine JC.seq ?_
  refine JC.region ?_
  refine JL.op rfl (JO.box (cs := [.slice x.a0 m.s.length x.c0, .slice x.a1 m.r.length x.c1, .slice x.a2 m.w.length x.c2]) rfl rfl) ?_
  rintro _ _ ⟨b_1, rfl, rfl⟩
  refine JL.op rfl (JO.alloc (z := .agg #[.slice none 0 0, .slice none 0 0, .slice none 0 0]) (cs := [.slice none 0 0, .slice none 0 0, .slice none 0 0]) Tryz.zeroValue32 rfl) ?_
  rintro _ _ ⟨b_2, rfl, rfl⟩
  refine JL.nil ?_
  refine JQ.seq ?_
  refine JC.seq ?_
  refine JC.region ?_
  refine JL.ld rfl (LO.loadK 1 (vs := [.slice x.a0 m.s.length x.c0, .slice x.a1 m.r.length x.c1, .slice x.a2 m.w.length x.c2]) rfl rfl Tryz.isAgg32 Tryz.sizeOf32 rfl rfl) ?_
  refine JL.pure rfl (PO.move (v := str p_) rfl) ?_
  refine JL.op rfl (JO.call [2, 2, 2] Tryz.call261 rfl (N_sUnder x m hk (by omega) (by omega) p_ (by omega)) rfl (fun _ _ => trivial)) ?_
  rintro _ _ ⟨_, ⟨x_5, m_6, l_7a, l_7c, l_7, e_3, k_4, f_8, rfl, rfl⟩, rfl⟩
  refine JL.pure rfl (PO.move (v := .tuple #[mv x_5 m_6, .slice l_7a l_7.length l_7c]) rfl) ?_
  refine JL.pure rfl (PO.extract (v := mv x_5 m_6) rfl rfl) ?_
  refine JL.pure rfl (PO.extract (v := .slice l_7a l_7.length l_7c) rfl rfl) ?_
  refine JL.op rfl (JO.store 5 (vs := [.slice x_5.a0 m_6.s.length x_5.c0, .slice x_5.a1 m_6.r.length x_5.c1, .slice x_5.a2 m_6.w.length x_5.c2]) (cs' := [.slice x_5.a0 m_6.s.length x_5.c0, .slice x_5.a1 m_6.r.length x_5.c1, .slice x_5.a2 m_6.w.length x_5.c2]) rfl rfl rfl rfl Tryz.sizeOf32 rfl rfl (Nat.le_of_ble_eq_true rfl) rfl) ?_
  rintro _ _ rfl
  refine JL.pure rfl (PO.assign (v := .slice l_7a l_7.length l_7c) rfl) ?_
  refine JL.nil ?_
  refine JQ.seq ?_
  refine JC.seq ?_
  refine JC.seq ?_
  refine JC.region ?_
  refine JL.pure rfl (PO.assign (v := .int .i64 0) rfl) ?_
  refine JL.nil ?_
  refine JQ.seq ?_
  refine JC.block ?_
  have hll := f_8.1
  refine JC.perm (pick_perm [5, 0, 0, 0, 0, 0] (A := [mb b_1 x_5 m_6, rC x_5.a0 x_5.c0 m_6.s, rS x_5.a1 x_5.c1 m_6.r, rS x_5.a2 x_5.c2 m_6.w, rS l_7a l_7c l_7, bk b_2 32 [.slice none 0 0, .slice none 0 0, .slice none 0 0]]) (F := []) rfl).symm ?_
  refine JC.loop (fun k_ e_ L_ => ∃ j : Nat, ∃ x : MA, ∃ mm : MS, (j ≤ l_7.length) ∧ (mm.ok (S) (T + 1 + j)) ∧ (MS.wipeL (l_7.drop j) mm = MS.wipeL l_7 m_6) ∧ e_ 2 = .pointer (some ⟨b_1, 0, none⟩) ∧ e_ 4 = .pointer (some ⟨b_2, 0, none⟩) ∧ e_ 5 = .slice l_7a l_7.length l_7c ∧ e_ 6 = .int .i64 ((j : Nat) : Int) ∧ L_ = [mb b_1 x mm, rC x.a0 x.c0 mm.s, rS x.a1 x.c1 mm.r, rS x.a2 x.c2 mm.w, rS l_7a l_7c l_7, bk b_2 32 [.slice none 0 0, .slice none 0 0, .slice none 0 0]] ∧ k_ = l_7.length - j) _ ⟨0, x_5, m_6, by omega, (k_4.mono (by omega) (by omega)), rfl, rfl, rfl, rfl, rfl, rfl, rfl⟩ ?_
  rintro _ e_9 _ ⟨j, x, mm, hj, hkmm, hR, he_10, he_11, he_12, he_13, rfl, rfl⟩
  refine JC.seq ?_
  refine JC.seq ?_
  refine JC.region ?_
  refine JL.pure rfl (PO.move (v := .int .i64 ((j : Nat) : Int)) he_13) ?_
  refine JL.pure rfl (PO.move (v := .slice l_7a l_7.length l_7c) he_12) ?_
  refine JL.pure rfl (PO.lenV Tryz.underlying23 rfl) ?_
  refine JL.pure rfl (PO.lss rfl rfl) ?_
  refine JL.nil ?_
  refine JQ.seq ?_
  by_cases h_14 : ((j : Nat) : Int) < ((l_7.length : Nat) : Int)
  · skip
    have hlt : j < l_7.length := by omega
    have hbj := f_8.2 j hlt
    try simp only [List.length_cons, List.length_nil] at hbj
    refine JC.condT (congrArg Value.bool (decide_eq_true h_14)) ?_
    refine JC.skip ?_
    refine JQ.seq ?_
    refine JC.seq ?_
    refine JC.block ?_
    refine JC.regionA [mb b_1 x mm] 5 mixed (by simp) ?_
    refine JA.take 0 rfl (by kernel_rfl) (NP.bl (NP.th (NP.th (NP.bl (NP.th NP.body))))) (by kernel_rfl) (by kernel_rfl) (by kernel_rfl) rfl (LO.loadK 0 (vs := [.slice x.a0 mm.s.length x.c0, .slice x.a1 mm.r.length x.c1, .slice x.a2 mm.w.length x.c2]) rfl he_10 Tryz.isAgg32 Tryz.sizeOf32 rfl rfl) ?_
    refine JA.takeP 1 rfl (by kernel_rfl) (NP.bl (NP.th (NP.th (NP.bl (NP.th NP.body))))) (by kernel_rfl) (by kernel_rfl) rfl (PO.move (v := .slice l_7a l_7.length l_7c) he_12) ?_
    refine JA.takeP 2 rfl (by kernel_rfl) (NP.bl (NP.th (NP.th (NP.bl (NP.th NP.body))))) (by kernel_rfl) (by kernel_rfl) rfl (PO.move (v := .int .i64 ((j : Nat) : Int)) he_13) ?_
    refine JA.facts fun hst => ?_
    obtain ⟨hr_15, hr_15b, -⟩ := row_some 4 rfl (by omega) hst
    refine JA.takeP 3 rfl (by kernel_rfl) (NP.bl (NP.th (NP.th (NP.bl (NP.th NP.body))))) (by kernel_rfl) (by kernel_rfl) rfl (PO.indexAddrV (i := j) Tryz.underlying23 Tryz.sizeOf9 hr_15 hr_15b rfl rfl (by omega)) ?_
    refine JA.one (i := 4) (by kernel_rfl) ?_
    refine JX.op rfl rfl (JO.ofLO (LO.loadR1 4 (v := str (l_7.getD j [])) rfl rfl Tryz.isAgg9 (atS (by omega)))) ?_
    rintro _ _ ⟨rfl, rfl⟩
    refine ⟨(by simp), ?_⟩
    refine JA.one (i := 5) (by kernel_rfl) ?_
    refine JX.late rfl rfl (by decide) (by kernel_rfl) (JO.call [1, 1, 1] Tryz.call232 rfl (N_sLayNil x mm hkmm (by omega) (by omega) (l_7.getD j []) (by omega)) rfl (fun _ _ => trivial)) ?_
    rintro _ _ ⟨_, ⟨x_22, m_23, e_20, k_21, rfl, rfl⟩, rfl⟩
    refine JA.one (i := 6) (by kernel_rfl) ?_
    refine JX.last rfl rfl (by decide) (by kernel_rfl) (JO.store 3 (vs := [.slice x_22.a0 m_23.s.length x_22.c0, .slice x_22.a1 m_23.r.length x_22.c1, .slice x_22.a2 m_23.w.length x_22.c2]) (cs' := [.slice x_22.a0 m_23.s.length x_22.c0, .slice x_22.a1 m_23.r.length x_22.c1, .slice x_22.a2 m_23.w.length x_22.c2]) rfl he_10 rfl rfl Tryz.sizeOf32 rfl rfl (Nat.le_of_ble_eq_true rfl) rfl) ?_
    rintro _ _ rfl
    refine JQ.blockN ?_
    refine JQ.seq ?_
    refine JC.region ?_
    refine JL.pure rfl (PO.move (v := .int .i64 ((j : Nat) : Int)) he_13) ?_
    refine JL.pure rfl (PO.add (c := ((j + 1 : Nat) : Int)) rfl rfl (wr (by omega))) ?_
    refine JL.pure rfl (PO.assign (v := .int .i64 ((j + 1 : Nat) : Int)) rfl) ?_
    refine JL.nil ?_
    refine JQ.pick [3, 0, 0, 0, 0, 0] (A := [mb b_1 x_22 m_23, rC x_22.a0 x_22.c0 m_23.s, rS x_22.a1 x_22.c1 m_23.r, rS x_22.a2 x_22.c2 m_23.w, rS l_7a l_7c l_7, bk b_2 32 [.slice none 0 0, .slice none 0 0, .slice none 0 0]]) rfl ?_
    refine JQ.again (l_7.length - (j + 1)) (by omega) ⟨j + 1, x_22, m_23, by omega, (k_21.mono (by omega) (by omega)), (by rw [drop_at (getD_some (d := []) hlt)] at hR; simp only [MS.wipeL, e_3, h_14, e_20, if_true, if_false, Bool.false_eq_true, Bool.not_true, Bool.not_false] at hR; (repeat (first | rw [if_pos (by omega)] at hR | rw [if_neg (by omega)] at hR)); exact hR), he_10, he_11, he_12, rfl, rfl, rfl⟩
  · skip
    rw [List.drop_of_length_le (by omega)] at hR
    simp only [MS.wipeL] at hR
    have hE := hR.symm
    refine JC.condF (congrArg Value.bool (decide_eq_false h_14)) ?_
    refine JC.exit ?_
    refine JQ.thenExit ?_
    refine JQ.thenExit ?_
    refine JQ.blockE ?_
    refine JQ.seq ?_
    refine JC.seq ?_
    refine JC.region ?_
    refine JL.ld rfl (LO.loadK 0 (vs := [.slice x.a0 mm.s.length x.c0, .slice x.a1 mm.r.length x.c1, .slice x.a2 mm.w.length x.c2]) rfl he_10 Tryz.isAgg32 Tryz.sizeOf32 rfl rfl) ?_
    refine JL.op rfl (JO.store 5 (vs := [.slice x.a0 mm.s.length x.c0, .slice x.a1 mm.r.length x.c1, .slice x.a2 mm.w.length x.c2]) (cs' := [.slice x.a0 mm.s.length x.c0, .slice x.a1 mm.r.length x.c1, .slice x.a2 mm.w.length x.c2]) rfl he_11 rfl rfl Tryz.sizeOf32 rfl rfl (Nat.le_of_ble_eq_true rfl) rfl) ?_
    rintro _ _ rfl
    refine JL.nil ?_
    refine JQ.seq ?_
    refine JC.ret ?_
    refine JQ.perm (pick_perm [1, 1, 1] (A := [rC x.a0 x.c0 mm.s, rS x.a1 x.c1 mm.r, rS x.a2 x.c2 mm.w]) (F := [mb b_1 x mm, rS l_7a l_7c l_7, mb b_2 x mm]) rfl).symm ?_
    refine Done.one (.inl rfl) rfl (RV.cell1 (LO.loadK 5 (vs := [.slice x.a0 mm.s.length x.c0, .slice x.a1 mm.r.length x.c1, .slice x.a2 mm.w.length x.c2]) rfl he_11 Tryz.isAgg32 Tryz.sizeOf32 rfl rfl) ⟨_, he_11⟩) (List.sublist_append_left [rC x.a0 x.c0 mm.s, rS x.a1 x.c1 mm.r, rS x.a2 x.c2 mm.w] [mb b_1 x mm, rS l_7a l_7c l_7, mb b_2 x mm]) ?_
    exact ⟨x, mm, (by simp only [MS.wipe', e_3, h_14, hE, if_true, if_false, Bool.false_eq_true, Bool.not_true, Bool.not_false]; (repeat (first | rw [if_pos (by omega)] | rw [if_neg (by omega)])); all_goals (first | rfl | simp only [if_true, if_false, Bool.false_eq_true, Bool.not_true, Bool.not_false, e_3, h_14, hE])), (hkmm.mono (by omega) (by omega)), rfl, rfl⟩

theorem N_state (p : Nat) (x : MA) (m : MS) {S T : Nat} (hk : m.ok S T) (hS : S ≤ 90000000) (hT : T ≤ 90000000) (id : Int) (hid : -9223372036854775808 ≤ id ∧ id ≤ 9223372036854775807) :
    Ct Tryz.prog 186 [.pointer (some ⟨p, 0, none⟩), .int .i64 id] (mb p x m :: mr x m) (fun _ => True) (fun v A' => ∃ x' m' r0, MS.state m id = (m', r0) ∧ m'.ok (S) (T + 1) ∧ (0 ≤ r0 ∧ r0 ≤ 999) ∧ v = .int .i64 r0 ∧ A' = mb p x' m' :: mr x' m') := by
  refine Ct.intro Tryz.func186 rfl Tryz.ntmps186 (Nat.le_of_ble_eq_true rfl) fun w0 hpre => ?_
  refine JC.seq ?_
  refine JC.region ?_
  refine JL.pure rfl (PO.assign (v := .int .i64 0) rfl) ?_
  refine JL.nil ?_
  refine JQ.seq ?_
  refine JC.seq ?_
  refine JC.region ?_
  refine JL.pure rfl (PO.move (v := .pointer (some ⟨p, 0, none⟩)) rfl) ?_
  refine JL.pure rfl (PO.move (v := .int .i64 id) rfl) ?_
  refine JL.op rfl (JO.call [] Tryz.call266 rfl (N_procKey id [47, 115] (by omega) (show List.length ([47, 115] : Str) ≤ 2 by decide) (by omega)) rfl (fun _ _ => trivial)) ?_
  rintro _ _ ⟨_, ⟨u_3, e_1, f_4, rfl, rfl⟩, rfl⟩
  refine JL.op rfl (JO.call [0, 0, 0, 0] Tryz.call170 rfl (N_num p x m hk (by omega) (by omega) u_3) rfl (fun _ _ => trivial)) ?_
  rintro _ _ ⟨_, ⟨x_7, m_8, n_9, e_5, k_6, f_10, rfl, rfl⟩, rfl⟩
  refine JL.pure rfl (PO.assign (v := .int .i64 n_9) rfl) ?_
  refine JL.nil ?_
  refine JQ.seq ?_
  refine JC.ret ?_
  refine Done.one (.inl rfl) rfl (RV.tmp (v := .int .i64 n_9) rfl) (List.Sublist.refl _) ?_
  exact ⟨x_7, m_8, n_9, (by simp only [MS.state, e_1, e_5, if_true, if_false, Bool.false_eq_true, Bool.not_true, Bool.not_false]; (repeat (first | rw [if_pos (by omega)] | rw [if_neg (by omega)])); all_goals (first | rfl | simp only [if_true, if_false, Bool.false_eq_true, Bool.not_true, Bool.not_false, e_1, e_5])), (k_6.mono (by omega) (by omega)), (by first | omega | (simp only [List.length_append, List.length_cons, List.length_nil, List.length_take, List.length_drop]; omega)), rfl, rfl⟩

theorem M_state (x : MA) (m : MS) {S T : Nat} (hk : m.ok S T) (hS : S ≤ 90000000) (hT : T ≤ 90000000) (id : Int) (hid : -9223372036854775808 ≤ id ∧ id ≤ 9223372036854775807) :
    Ct Tryz.prog 187 [mv x m, .int .i64 id] (mr x m) (fun _ => True) (fun v A' => ∃ x' m' r0, MS.state m id = (m', r0) ∧ m'.ok (S) (T + 1) ∧ (0 ≤ r0 ∧ r0 ≤ 999) ∧ v = .tuple #[mv x' m', .int .i64 r0] ∧ A' = mr x' m') := by
  refine Ct.intro Tryz.func187 rfl Tryz.ntmps187 (Nat.le_of_ble_eq_true rfl) fun w0 hpre => ?_
  refine JC.seq ?_
  refine JC.region ?_
  refine JL.op rfl (JO.box (cs := [.slice x.a0 m.s.length x.c0, .slice x.a1 m.r.length x.c1, .slice x.a2 m.w.length x.c2]) rfl rfl) ?_
  rintro _ _ ⟨b_1, rfl, rfl⟩
  refine JL.op rfl (JO.alloc (z := .agg #[.slice none 0 0, .slice none 0 0, .slice none 0 0]) (cs := [.slice none 0 0, .slice none 0 0, .slice none 0 0]) Tryz.zeroValue32 rfl) ?_
  rintro _ _ ⟨b_2, rfl, rfl⟩
  refine JL.pure rfl (PO.assign (v := .int .i64 0) rfl) ?_
  refine JL.nil ?_
  refine JQ.seq ?_
  refine JC.seq ?_
  refine JC.regionA [mb b_1 x m] 6 mixed (by simp) ?_
  refine JA.take 0 rfl (by kernel_rfl) (NP.th NP.body) (by kernel_rfl) (by kernel_rfl) (by kernel_rfl) rfl (LO.loadK 0 (vs := [.slice x.a0 m.s.length x.c0, .slice x.a1 m.r.length x.c1, .slice x.a2 m.w.length x.c2]) rfl rfl Tryz.isAgg32 Tryz.sizeOf32 rfl rfl) ?_
  refine JA.takeP 1 rfl (by kernel_rfl) (NP.th NP.body) (by kernel_rfl) (by kernel_rfl) rfl (PO.move (v := .int .i64 id) rfl) ?_
  refine JA.one (i := 2) (by kernel_rfl) ?_
  refine JX.op rfl rfl (JO.call [] Tryz.call267 rfl (N_l09Key id [47, 115] (by omega) (show List.length ([47, 115] : Str) ≤ 2 by decide) (by omega)) rfl (fun _ _ => trivial)) ?_
  rintro _ _ ⟨_, ⟨u_9, e_7, f_10, rfl, rfl⟩, rfl⟩
  refine ⟨(by simp), ?_⟩
  refine JA.one (i := 3) (by kernel_rfl) ?_
  refine JX.op rfl rfl (JO.call [2, 2, 2] Tryz.call228 rfl (N_sNumAt x m hk (by omega) (by omega) u_9) rfl (fun _ _ => trivial)) ?_
  rintro _ _ ⟨_, ⟨x_19, m_20, n_21, e_17, k_18, f_22, rfl, rfl⟩, rfl⟩
  refine ⟨(by simp), ?_⟩
  refine JA.takeP 4 rfl (by kernel_rfl) (NP.th NP.body) (by kernel_rfl) (by kernel_rfl) rfl (PO.extract (v := mv x_19 m_20) rfl rfl) ?_
  refine JA.takeP 5 rfl (by kernel_rfl) (NP.th NP.body) (by kernel_rfl) (by kernel_rfl) rfl (PO.extract (v := .int .i64 n_21) rfl rfl) ?_
  refine JA.one (i := 6) (by kernel_rfl) ?_
  refine JX.late rfl rfl (by decide) (by kernel_rfl) (JO.store 3 (vs := [.slice x_19.a0 m_20.s.length x_19.c0, .slice x_19.a1 m_20.r.length x_19.c1, .slice x_19.a2 m_20.w.length x_19.c2]) (cs' := [.slice x_19.a0 m_20.s.length x_19.c0, .slice x_19.a1 m_20.r.length x_19.c1, .slice x_19.a2 m_20.w.length x_19.c2]) rfl rfl rfl rfl Tryz.sizeOf32 rfl rfl (Nat.le_of_ble_eq_true rfl) rfl) ?_
  rintro _ _ rfl
  refine JA.takeP 7 rfl (by kernel_rfl) (NP.th NP.body) (by kernel_rfl) (by kernel_rfl) rfl (PO.assign (v := .int .i64 n_21) rfl) ?_
  refine JA.done (by kernel_rfl) ?_
  refine JQ.seq ?_
  refine JC.ret ?_
  refine Done.two (.inl rfl) rfl (RV.cell1 (LO.loadK 3 (vs := [.slice x_19.a0 m_20.s.length x_19.c0, .slice x_19.a1 m_20.r.length x_19.c1, .slice x_19.a2 m_20.w.length x_19.c2]) rfl rfl Tryz.isAgg32 Tryz.sizeOf32 rfl rfl) ⟨_, rfl⟩) (RV.tmp (v := .int .i64 n_21) rfl) (List.sublist_append_left [rC x_19.a0 x_19.c0 m_20.s, rS x_19.a1 x_19.c1 m_20.r, rS x_19.a2 x_19.c2 m_20.w] [mb b_2 x_19 m_20, mb b_1 x m]) ?_
  exact ⟨x_19, m_20, n_21, (by simp only [MS.state, e_7, e_17, if_true, if_false, Bool.false_eq_true, Bool.not_true, Bool.not_false]; (repeat (first | rw [if_pos (by omega)] | rw [if_neg (by omega)])); all_goals (first | rfl | simp only [if_true, if_false, Bool.false_eq_true, Bool.not_true, Bool.not_false, e_7, e_17])), (k_18.mono (by omega) (by omega)), (by first | omega | (simp only [List.length_append, List.length_cons, List.length_nil, List.length_take, List.length_drop]; omega)), rfl, rfl⟩

theorem M_spawn (x : MA) (m : MS) {S T : Nat} (hk : m.ok S T) (hS : S ≤ 50000000) (hT : T ≤ 50000000) (parent : Int) (hparent : -9223372036854775808 ≤ parent ∧ parent ≤ 9223372036854775807) :
    Ct Tryz.prog 177 [mv x m, .int .i64 parent] (mr x m) (fun _ => True) (fun v A' => ∃ x' m' r0 r1, MS.spawn m parent = (m', r0, r1) ∧ m'.ok (S + 3) (T + 4) ∧ (0 ≤ r0 ∧ r0 ≤ 999) ∧ (0 ≤ r1 ∧ r1 ≤ 9) ∧ v = .tuple #[mv x' m', .int .i64 r0, .int .i64 r1] ∧ A' = mr x' m') := by
  refine Ct.intro Tryz.func177 rfl Tryz.ntmps177 (Nat.le_of_ble_eq_true rfl) fun w0 hpre => ?_
  refine JC.seq ?_
  refine JC.region ?_
  refine JL.op rfl (JO.box (cs := [.slice x.a0 m.s.length x.c0, .slice x.a1 m.r.length x.c1, .slice x.a2 m.w.length x.c2]) rfl rfl) ?_
  rintro _ _ ⟨b_1, rfl, rfl⟩
  refine JL.op rfl (JO.alloc (z := .agg #[.slice none 0 0, .slice none 0 0, .slice none 0 0]) (cs := [.slice none 0 0, .slice none 0 0, .slice none 0 0]) Tryz.zeroValue32 rfl) ?_
  rintro _ _ ⟨b_2, rfl, rfl⟩
  refine JL.pure rfl (PO.assign (v := .int .i64 0) rfl) ?_
  refine JL.pure rfl (PO.assign (v := .int .i64 0) rfl) ?_
  refine JL.nil ?_
  refine JQ.seq ?_
  refine JC.seq ?_
  refine JC.region ?_
  refine JL.ld rfl (LO.loadK 1 (vs := [.slice x.a0 m.s.length x.c0, .slice x.a1 m.r.length x.c1, .slice x.a2 m.w.length x.c2]) rfl rfl Tryz.isAgg32 Tryz.sizeOf32 rfl rfl) ?_
  refine JL.op rfl (JO.call [2, 2, 2] Tryz.call228 rfl (N_sNumAt x m hk (by omega) (by omega) [99, 47, 112, 114, 111, 99]) rfl (fun _ _ => trivial)) ?_
  rintro _ _ ⟨_, ⟨x_5, m_6, n_7, e_3, k_4, f_8, rfl, rfl⟩, rfl⟩
  refine JL.pure rfl (PO.move (v := .tuple #[mv x_5 m_6, .int .i64 n_7]) rfl) ?_
  refine JL.pure rfl (PO.extract (v := mv x_5 m_6) rfl rfl) ?_
  refine JL.pure rfl (PO.extract (v := .int .i64 n_7) rfl rfl) ?_
  refine JL.op rfl (JO.store 4 (vs := [.slice x_5.a0 m_6.s.length x_5.c0, .slice x_5.a1 m_6.r.length x_5.c1, .slice x_5.a2 m_6.w.length x_5.c2]) (cs' := [.slice x_5.a0 m_6.s.length x_5.c0, .slice x_5.a1 m_6.r.length x_5.c1, .slice x_5.a2 m_6.w.length x_5.c2]) rfl rfl rfl rfl Tryz.sizeOf32 rfl rfl (Nat.le_of_ble_eq_true rfl) rfl) ?_
  rintro _ _ rfl
  refine JL.pure rfl (PO.assign (v := .int .i64 n_7) rfl) ?_
  refine JL.nil ?_
  refine JQ.seq ?_
  refine JC.seq ?_
  refine JC.seq ?_
  refine JC.region ?_
  refine JL.pure rfl (PO.move (v := .int .i64 n_7) rfl) ?_
  refine JL.pure rfl (PO.geq rfl rfl) ?_
  refine JL.nil ?_
  refine JQ.seq ?_
  by_cases h_9 : 12 ≤ n_7
  · skip
    refine JC.condT (congrArg Value.bool (decide_eq_true h_9)) ?_
    refine JC.seq ?_
    refine JC.region ?_
    refine JL.ld rfl (LO.loadK 4 (vs := [.slice x_5.a0 m_6.s.length x_5.c0, .slice x_5.a1 m_6.r.length x_5.c1, .slice x_5.a2 m_6.w.length x_5.c2]) rfl rfl Tryz.isAgg32 Tryz.sizeOf32 rfl rfl) ?_
    refine JL.op rfl (JO.store 3 (vs := [.slice x_5.a0 m_6.s.length x_5.c0, .slice x_5.a1 m_6.r.length x_5.c1, .slice x_5.a2 m_6.w.length x_5.c2]) (cs' := [.slice x_5.a0 m_6.s.length x_5.c0, .slice x_5.a1 m_6.r.length x_5.c1, .slice x_5.a2 m_6.w.length x_5.c2]) rfl rfl rfl rfl Tryz.sizeOf32 rfl rfl (Nat.le_of_ble_eq_true rfl) rfl) ?_
    rintro _ _ rfl
    refine JL.pure rfl (PO.assign (v := .int .i64 0) rfl) ?_
    refine JL.pure rfl (PO.assign (v := .int .i64 3) rfl) ?_
    refine JL.nil ?_
    refine JQ.seq ?_
    refine JC.ret ?_
    refine JQ.thenRet ?_
    refine Done.three (.inl rfl) rfl (RV.cell1 (LO.loadK 3 (vs := [.slice x_5.a0 m_6.s.length x_5.c0, .slice x_5.a1 m_6.r.length x_5.c1, .slice x_5.a2 m_6.w.length x_5.c2]) rfl rfl Tryz.isAgg32 Tryz.sizeOf32 rfl rfl) ⟨_, rfl⟩) (RV.tmp (v := .int .i64 0) rfl) (RV.tmp (v := .int .i64 3) rfl) (List.sublist_append_left [rC x_5.a0 x_5.c0 m_6.s, rS x_5.a1 x_5.c1 m_6.r, rS x_5.a2 x_5.c2 m_6.w] [mb b_2 x_5 m_6, mb b_1 x_5 m_6]) ?_
    exact ⟨x_5, m_6, 0, 3, (by simp only [MS.spawn, e_3, h_9, if_true, if_false, Bool.false_eq_true, Bool.not_true, Bool.not_false]; (repeat (first | rw [if_pos (by omega)] | rw [if_neg (by omega)])); all_goals (first | rfl | simp only [if_true, if_false, Bool.false_eq_true, Bool.not_true, Bool.not_false, e_3, h_9])), (k_4.mono (by omega) (by omega)), (by first | omega | (simp only [List.length_append, List.length_cons, List.length_nil, List.length_take, List.length_drop]; omega)), (by first | omega | (simp only [List.length_append, List.length_cons, List.length_nil, List.length_take, List.length_drop]; omega)), rfl, rfl⟩
  · skip
    refine JC.condF (congrArg Value.bool (decide_eq_false h_9)) ?_
    refine JC.skip ?_
    refine JQ.seq ?_
    refine JC.seq ?_
    refine JC.region ?_
    refine JL.ld rfl (LO.loadK 4 (vs := [.slice x_5.a0 m_6.s.length x_5.c0, .slice x_5.a1 m_6.r.length x_5.c1, .slice x_5.a2 m_6.w.length x_5.c2]) rfl rfl Tryz.isAgg32 Tryz.sizeOf32 rfl rfl) ?_
    refine JL.op rfl (JO.call [0, 0, 0] Tryz.call255 rfl (N_sBump x_5 m_6 k_4 (by omega) (by omega) [99, 47, 112, 114, 111, 99] (by decide)) rfl (fun _ _ => trivial)) ?_
    rintro _ _ ⟨_, ⟨x_12, m_13, n_14, e_10, k_11, f_15, rfl, rfl⟩, rfl⟩
    refine JL.pure rfl (PO.move (v := .tuple #[mv x_12 m_13, .int .i64 n_14]) rfl) ?_
    refine JL.pure rfl (PO.extract (v := mv x_12 m_13) rfl rfl) ?_
    refine JL.pure rfl (PO.extract (v := .int .i64 n_14) rfl rfl) ?_
    refine JL.op rfl (JO.store 4 (vs := [.slice x_12.a0 m_13.s.length x_12.c0, .slice x_12.a1 m_13.r.length x_12.c1, .slice x_12.a2 m_13.w.length x_12.c2]) (cs' := [.slice x_12.a0 m_13.s.length x_12.c0, .slice x_12.a1 m_13.r.length x_12.c1, .slice x_12.a2 m_13.w.length x_12.c2]) rfl rfl rfl rfl Tryz.sizeOf32 rfl rfl (Nat.le_of_ble_eq_true rfl) rfl) ?_
    rintro _ _ rfl
    refine JL.pure rfl (PO.assign (v := .int .i64 n_14) rfl) ?_
    refine JL.nil ?_
    refine JQ.seq ?_
    refine JC.seq ?_
    refine JC.regionA [mb b_1 x_12 m_13] 3 mixed (by simp) ?_
    refine JA.take 0 rfl (by kernel_rfl) (NP.th NP.body) (by kernel_rfl) (by kernel_rfl) (by kernel_rfl) rfl (LO.loadK 0 (vs := [.slice x_12.a0 m_13.s.length x_12.c0, .slice x_12.a1 m_13.r.length x_12.c1, .slice x_12.a2 m_13.w.length x_12.c2]) rfl rfl Tryz.isAgg32 Tryz.sizeOf32 rfl rfl) ?_
    refine JA.takeP 1 rfl (by kernel_rfl) (NP.th NP.body) (by kernel_rfl) (by kernel_rfl) rfl (PO.move (v := .int .i64 n_14) rfl) ?_
    refine JA.one (i := 2) (by kernel_rfl) ?_
    refine JX.op rfl rfl (JO.call [] Tryz.call267 rfl (N_l09Key n_14 [47, 115] (by omega) (show List.length ([47, 115] : Str) ≤ 2 by decide) (by omega)) rfl (fun _ _ => trivial)) ?_
    rintro _ _ ⟨_, ⟨u_22, e_20, f_23, rfl, rfl⟩, rfl⟩
    refine ⟨(by simp), ?_⟩
    refine JA.one (i := 3) (by kernel_rfl) ?_
    refine JX.late rfl rfl (by decide) (by kernel_rfl) (JO.call [0, 0, 0] Tryz.call233 rfl (N_sSetNum x_12 m_13 k_11 (by omega) (by omega) u_22 1 (by omega) (by omega)) rfl (fun _ _ => trivial)) ?_
    rintro _ _ ⟨_, ⟨x_30, m_31, e_28, k_29, rfl, rfl⟩, rfl⟩
    refine JA.one (i := 4) (by kernel_rfl) ?_
    refine JX.last rfl rfl (by decide) (by kernel_rfl) (JO.store 4 (vs := [.slice x_30.a0 m_31.s.length x_30.c0, .slice x_30.a1 m_31.r.length x_30.c1, .slice x_30.a2 m_31.w.length x_30.c2]) (cs' := [.slice x_30.a0 m_31.s.length x_30.c0, .slice x_30.a1 m_31.r.length x_30.c1, .slice x_30.a2 m_31.w.length x_30.c2]) rfl rfl rfl rfl Tryz.sizeOf32 rfl rfl (Nat.le_of_ble_eq_true rfl) rfl) ?_
    rintro _ _ rfl
    refine JQ.seq ?_
    refine JC.seq ?_
    refine JC.regionA [mb b_1 x_30 m_31] 6 mixed (by simp) ?_
    refine JA.take 0 rfl (by kernel_rfl) (NP.th NP.body) (by kernel_rfl) (by kernel_rfl) (by kernel_rfl) rfl (LO.loadK 0 (vs := [.slice x_30.a0 m_31.s.length x_30.c0, .slice x_30.a1 m_31.r.length x_30.c1, .slice x_30.a2 m_31.w.length x_30.c2]) rfl rfl Tryz.isAgg32 Tryz.sizeOf32 rfl rfl) ?_
    refine JA.takeP 1 rfl (by kernel_rfl) (NP.th NP.body) (by kernel_rfl) (by kernel_rfl) rfl (PO.move (v := .int .i64 n_14) rfl) ?_
    refine JA.takeP 3 rfl (by kernel_rfl) (NP.th NP.body) (by kernel_rfl) (by kernel_rfl) rfl (PO.move (v := .int .i64 parent) rfl) ?_
    refine JA.takeP 5 rfl (by kernel_rfl) (NP.th NP.body) (by kernel_rfl) (by kernel_rfl) rfl (PO.move (v := .int .i64 n_14) rfl) ?_
    refine JA.one (i := 2) (by kernel_rfl) ?_
    refine JX.op rfl rfl (JO.call [] Tryz.call267 rfl (N_l09Key n_14 [47, 112] (by omega) (show List.length ([47, 112] : Str) ≤ 2 by decide) (by omega)) rfl (fun _ _ => trivial)) ?_
    rintro _ _ ⟨_, ⟨u_46, e_44, f_47, rfl, rfl⟩, rfl⟩
    refine ⟨(by simp), ?_⟩
    refine JA.one (i := 4) (by kernel_rfl) ?_
    refine JX.op rfl rfl (JO.call [0, 0, 0] Tryz.call233 rfl (N_sSetNum x_30 m_31 k_29 (by omega) (by omega) u_46 parent (by omega) (by omega)) rfl (fun _ _ => trivial)) ?_
    rintro _ _ ⟨_, ⟨x_54, m_55, e_52, k_53, rfl, rfl⟩, rfl⟩
    refine ⟨(by simp), ?_⟩
    refine JA.one (i := 6) (by kernel_rfl) ?_
    refine JX.late rfl rfl (by decide) (by kernel_rfl) (JO.store 3 (vs := [.slice x_54.a0 m_55.s.length x_54.c0, .slice x_54.a1 m_55.r.length x_54.c1, .slice x_54.a2 m_55.w.length x_54.c2]) (cs' := [.slice x_54.a0 m_55.s.length x_54.c0, .slice x_54.a1 m_55.r.length x_54.c1, .slice x_54.a2 m_55.w.length x_54.c2]) rfl rfl rfl rfl Tryz.sizeOf32 rfl rfl (Nat.le_of_ble_eq_true rfl) rfl) ?_
    rintro _ _ rfl
    refine JA.takeP 7 rfl (by kernel_rfl) (NP.th NP.body) (by kernel_rfl) (by kernel_rfl) rfl (PO.assign (v := .int .i64 n_14) rfl) ?_
    refine JA.takeP 8 rfl (by kernel_rfl) (NP.th NP.body) (by kernel_rfl) (by kernel_rfl) rfl (PO.assign (v := .int .i64 0) rfl) ?_
    refine JA.done (by kernel_rfl) ?_
    refine JQ.seq ?_
    refine JC.ret ?_
    refine Done.three (.inl rfl) rfl (RV.cell1 (LO.loadK 3 (vs := [.slice x_54.a0 m_55.s.length x_54.c0, .slice x_54.a1 m_55.r.length x_54.c1, .slice x_54.a2 m_55.w.length x_54.c2]) rfl rfl Tryz.isAgg32 Tryz.sizeOf32 rfl rfl) ⟨_, rfl⟩) (RV.tmp (v := .int .i64 n_14) rfl) (RV.tmp (v := .int .i64 0) rfl) (List.sublist_append_left [rC x_54.a0 x_54.c0 m_55.s, rS x_54.a1 x_54.c1 m_55.r, rS x_54.a2 x_54.c2 m_55.w] [mb b_2 x_54 m_55, mb b_1 x_30 m_31]) ?_
    exact ⟨x_54, m_55, n_14, 0, (by simp only [MS.spawn, e_3, h_9, e_10, e_20, e_28, e_44, e_52, if_true, if_false, Bool.false_eq_true, Bool.not_true, Bool.not_false]; (repeat (first | rw [if_pos (by omega)] | rw [if_neg (by omega)])); all_goals (first | rfl | simp only [if_true, if_false, Bool.false_eq_true, Bool.not_true, Bool.not_false, e_3, h_9, e_10, e_20, e_28, e_44, e_52])), (k_53.mono (by omega) (by omega)), (by first | omega | (simp only [List.length_append, List.length_cons, List.length_nil, List.length_take, List.length_drop]; omega)), (by first | omega | (simp only [List.length_append, List.length_cons, List.length_nil, List.length_take, List.length_drop]; omega)), rfl, rfl⟩

theorem Q_spawn (x : MA) (m : MS) {S T : Nat} (hk : m.ok S T) (hS : S ≤ 49000000) (hT : T ≤ 49000000) (parent : Int) (hparent : -9223372036854775808 ≤ parent ∧ parent ≤ 9223372036854775807) :
    Ct Tryz.prog 67 [mv x m, .int .i64 parent] ([]) (fun w => seesM w x m) (fun v A' => ∃ x' m' r0 r1, MS.spawn m parent = (m', r0, r1) ∧ m'.ok (S + 3) (T + 4) ∧ (0 ≤ r0 ∧ r0 ≤ 999) ∧ (0 ≤ r1 ∧ r1 ≤ 9) ∧ v = .tuple #[mv x' m', .int .i64 r0, .int .i64 r1] ∧ A' = mr x' m') := by
  refine Ct.intro Tryz.func67 rfl Tryz.ntmps67 (Nat.le_of_ble_eq_true rfl) fun w0 hpre => ?_
  have hs_x_a0 : Sees w0 _ _ _ _ := hpre.1
  have hs_x_a1 : Sees w0 _ _ _ _ := hpre.2.1
  have hs_x_a2 : Sees w0 _ _ _ _ := hpre.2.2
  refine JC.seq ?_
  refine JC.region ?_
  refine JL.op rfl (JO.box (cs := [.slice x.a0 m.s.length x.c0, .slice x.a1 m.r.length x.c1, .slice x.a2 m.w.length x.c2]) rfl rfl) ?_
  rintro _ _ ⟨b_1, rfl, rfl⟩
  refine JL.op rfl (JO.alloc (z := .agg #[.slice none 0 0, .slice none 0 0, .slice none 0 0]) (cs := [.slice none 0 0, .slice none 0 0, .slice none 0 0]) Tryz.zeroValue32 rfl) ?_
  rintro _ _ ⟨b_2, rfl, rfl⟩
  refine JL.pure rfl (PO.assign (v := .int .i64 0) rfl) ?_
  refine JL.pure rfl (PO.assign (v := .int .i64 0) rfl) ?_
  refine JL.nil ?_
  refine JQ.seq ?_
  refine JC.seq ?_
  refine JC.region ?_
  refine JL.ld rfl (LO.loadK 1 (vs := [.slice x.a0 m.s.length x.c0, .slice x.a1 m.r.length x.c1, .slice x.a2 m.w.length x.c2]) rfl rfl Tryz.isAgg32 Tryz.sizeOf32 rfl rfl) ?_
  refine JL.op rfl (JO.call [] Tryz.call124 rfl (N_copy x m hk (by omega) (by omega)) rfl (fun w hw => ⟨hw.seeOut_ hs_x_a0 (fun _ _ => List.not_mem_nil), hw.seeOut_ hs_x_a1 (fun _ _ => List.not_mem_nil), hw.seeOut_ hs_x_a2 (fun _ _ => List.not_mem_nil)⟩)) ?_
  rintro _ _ ⟨_, ⟨x_5, m_6, rfl, k_4, rfl, rfl⟩, rfl⟩
  refine JL.pure rfl (PO.move (v := .int .i64 parent) rfl) ?_
  refine JL.op rfl (JO.call [0, 0, 0] Tryz.call177 rfl (M_spawn x_5 m k_4 (by omega) (by omega) parent (by omega)) rfl (fun _ _ => trivial)) ?_
  rintro _ _ ⟨_, ⟨x_9, m_10, n_11, n_13, e_7, k_8, f_12, f_14, rfl, rfl⟩, rfl⟩
  refine JL.pure rfl (PO.extract (v := mv x_9 m_10) rfl rfl) ?_
  refine JL.pure rfl (PO.extract (v := .int .i64 n_11) rfl rfl) ?_
  refine JL.pure rfl (PO.extract (v := .int .i64 n_13) rfl rfl) ?_
  refine JL.op rfl (JO.store 3 (vs := [.slice x_9.a0 m_10.s.length x_9.c0, .slice x_9.a1 m_10.r.length x_9.c1, .slice x_9.a2 m_10.w.length x_9.c2]) (cs' := [.slice x_9.a0 m_10.s.length x_9.c0, .slice x_9.a1 m_10.r.length x_9.c1, .slice x_9.a2 m_10.w.length x_9.c2]) rfl rfl rfl rfl Tryz.sizeOf32 rfl rfl (Nat.le_of_ble_eq_true rfl) rfl) ?_
  rintro _ _ rfl
  refine JL.pure rfl (PO.assign (v := .int .i64 n_11) rfl) ?_
  refine JL.pure rfl (PO.assign (v := .int .i64 n_13) rfl) ?_
  refine JL.nil ?_
  refine JQ.seq ?_
  refine JC.ret ?_
  refine Done.three (.inl rfl) rfl (RV.cell1 (LO.loadK 3 (vs := [.slice x_9.a0 m_10.s.length x_9.c0, .slice x_9.a1 m_10.r.length x_9.c1, .slice x_9.a2 m_10.w.length x_9.c2]) rfl rfl Tryz.isAgg32 Tryz.sizeOf32 rfl rfl) ⟨_, rfl⟩) (RV.tmp (v := .int .i64 n_11) rfl) (RV.tmp (v := .int .i64 n_13) rfl) (List.sublist_append_left [rC x_9.a0 x_9.c0 m_10.s, rS x_9.a1 x_9.c1 m_10.r, rS x_9.a2 x_9.c2 m_10.w] [mb b_2 x_9 m_10, mb b_1 x m]) ?_
  exact ⟨x_9, m_10, n_11, n_13, (by simp only [if_true, e_7, if_true, if_false, Bool.false_eq_true, Bool.not_true, Bool.not_false]; (repeat (first | rw [if_pos (by omega)] | rw [if_neg (by omega)])); all_goals (first | rfl | simp only [if_true, if_false, Bool.false_eq_true, Bool.not_true, Bool.not_false, e_7])), (k_8.mono (by omega) (by omega)), (by first | omega | (simp only [List.length_append, List.length_cons, List.length_nil, List.length_take, List.length_drop]; omega)), (by first | omega | (simp only [List.length_append, List.length_cons, List.length_nil, List.length_take, List.length_drop]; omega)), rfl, rfl⟩

theorem M_end (x : MA) (m : MS) {S T : Nat} (hk : m.ok S T) (hS : S ≤ 50000000) (hT : T ≤ 50000000) (id : Int) (n : Int) (hid : -9223372036854775808 ≤ id ∧ id ≤ 9223372036854775807) (hn : -9223372036854775808 ≤ n ∧ n ≤ 9223372036854775807) :
    Ct Tryz.prog 181 [mv x m, .int .i64 id, .int .i64 n] (mr x m) (fun _ => True) (fun v A' => ∃ x' m' r0, MS.endProc m id n = (m', r0) ∧ m'.ok (S + 2) (T + 3) ∧ (0 ≤ r0 ∧ r0 ≤ 9) ∧ v = .tuple #[mv x' m', .int .i64 r0] ∧ A' = mr x' m') := by
  refine Ct.intro Tryz.func181 rfl Tryz.ntmps181 (Nat.le_of_ble_eq_true rfl) fun w0 hpre => ?_
  refine JC.seq ?_
  refine JC.region ?_
  refine JL.op rfl (JO.box (cs := [.slice x.a0 m.s.length x.c0, .slice x.a1 m.r.length x.c1, .slice x.a2 m.w.length x.c2]) rfl rfl) ?_
  rintro _ _ ⟨b_1, rfl, rfl⟩
  refine JL.op rfl (JO.alloc (z := .agg #[.slice none 0 0, .slice none 0 0, .slice none 0 0]) (cs := [.slice none 0 0, .slice none 0 0, .slice none 0 0]) Tryz.zeroValue32 rfl) ?_
  rintro _ _ ⟨b_2, rfl, rfl⟩
  refine JL.pure rfl (PO.assign (v := .int .i64 0) rfl) ?_
  refine JL.nil ?_
  refine JQ.seq ?_
  refine JC.seq ?_
  refine JC.region ?_
  refine JL.ld rfl (LO.loadK 1 (vs := [.slice x.a0 m.s.length x.c0, .slice x.a1 m.r.length x.c1, .slice x.a2 m.w.length x.c2]) rfl rfl Tryz.isAgg32 Tryz.sizeOf32 rfl rfl) ?_
  refine JL.pure rfl (PO.move (v := .int .i64 id) rfl) ?_
  refine JL.op rfl (JO.call [2, 2, 2] Tryz.call187 rfl (M_state x m hk (by omega) (by omega) id (by omega)) rfl (fun _ _ => trivial)) ?_
  rintro _ _ ⟨_, ⟨x_5, m_6, n_7, e_3, k_4, f_8, rfl, rfl⟩, rfl⟩
  refine JL.pure rfl (PO.move (v := .tuple #[mv x_5 m_6, .int .i64 n_7]) rfl) ?_
  refine JL.pure rfl (PO.extract (v := mv x_5 m_6) rfl rfl) ?_
  refine JL.pure rfl (PO.extract (v := .int .i64 n_7) rfl rfl) ?_
  refine JL.op rfl (JO.store 4 (vs := [.slice x_5.a0 m_6.s.length x_5.c0, .slice x_5.a1 m_6.r.length x_5.c1, .slice x_5.a2 m_6.w.length x_5.c2]) (cs' := [.slice x_5.a0 m_6.s.length x_5.c0, .slice x_5.a1 m_6.r.length x_5.c1, .slice x_5.a2 m_6.w.length x_5.c2]) rfl rfl rfl rfl Tryz.sizeOf32 rfl rfl (Nat.le_of_ble_eq_true rfl) rfl) ?_
  rintro _ _ rfl
  refine JL.pure rfl (PO.assign (v := .int .i64 n_7) rfl) ?_
  refine JL.nil ?_
  refine JQ.seq ?_
  refine JC.seq ?_
  refine JC.seq ?_
  refine JC.region ?_
  refine JL.pure rfl (PO.move (v := .int .i64 n_7) rfl) ?_
  refine JL.pure rfl (PO.neqI rfl rfl) ?_
  refine JL.nil ?_
  refine JQ.seq ?_
  by_cases h_9 : n_7 = 1
  · skip
    refine JC.condF (congrArg Value.bool (congrArg Bool.not (decide_eq_true h_9))) ?_
    refine JC.skip ?_
    refine JQ.seq ?_
    refine JC.seq ?_
    refine JC.seq ?_
    refine JC.region ?_
    refine JL.pure rfl (PO.move (v := .int .i64 n) rfl) ?_
    refine JL.op rfl (JO.call [] Tryz.call144 rfl (C_l01In n 0 100) rfl (fun _ _ => trivial)) ?_
    rintro _ _ ⟨_, ⟨rfl, rfl⟩, rfl⟩
    refine JL.pure rfl (PO.not rfl) ?_
    refine JL.nil ?_
    refine JQ.seq ?_
    rcases Bool.eq_false_or_eq_true (decide (0 ≤ n) && decide (n ≤ 100)) with h_10 | h_10
    · skip
      have h_10d := h_10
      simp only [Bool.and_eq_true, Bool.and_eq_false_iff, decide_eq_true_eq, decide_eq_false_iff_not] at h_10d
      refine JC.condF (congrArg Value.bool (congrArg Bool.not h_10)) ?_
      refine JC.skip ?_
      refine JQ.seq ?_
      refine JC.seq ?_
      refine JC.regionA [mb b_1 x_5 m_6] 3 mixed (by simp) ?_
      refine JA.take 0 rfl (by kernel_rfl) (NP.th NP.body) (by kernel_rfl) (by kernel_rfl) (by kernel_rfl) rfl (LO.loadK 0 (vs := [.slice x_5.a0 m_6.s.length x_5.c0, .slice x_5.a1 m_6.r.length x_5.c1, .slice x_5.a2 m_6.w.length x_5.c2]) rfl rfl Tryz.isAgg32 Tryz.sizeOf32 rfl rfl) ?_
      refine JA.takeP 1 rfl (by kernel_rfl) (NP.th NP.body) (by kernel_rfl) (by kernel_rfl) rfl (PO.move (v := .int .i64 id) rfl) ?_
      refine JA.one (i := 2) (by kernel_rfl) ?_
      refine JX.op rfl rfl (JO.call [] Tryz.call267 rfl (N_l09Key id [47, 115] (by omega) (show List.length ([47, 115] : Str) ≤ 2 by decide) (by omega)) rfl (fun _ _ => trivial)) ?_
      rintro _ _ ⟨_, ⟨u_17, e_15, f_18, rfl, rfl⟩, rfl⟩
      refine ⟨(by simp), ?_⟩
      refine JA.one (i := 3) (by kernel_rfl) ?_
      refine JX.late rfl rfl (by decide) (by kernel_rfl) (JO.call [0, 0, 0] Tryz.call233 rfl (N_sSetNum x_5 m_6 k_4 (by omega) (by omega) u_17 2 (by omega) (by omega)) rfl (fun _ _ => trivial)) ?_
      rintro _ _ ⟨_, ⟨x_25, m_26, e_23, k_24, rfl, rfl⟩, rfl⟩
      refine JA.one (i := 4) (by kernel_rfl) ?_
      refine JX.last rfl rfl (by decide) (by kernel_rfl) (JO.store 4 (vs := [.slice x_25.a0 m_26.s.length x_25.c0, .slice x_25.a1 m_26.r.length x_25.c1, .slice x_25.a2 m_26.w.length x_25.c2]) (cs' := [.slice x_25.a0 m_26.s.length x_25.c0, .slice x_25.a1 m_26.r.length x_25.c1, .slice x_25.a2 m_26.w.length x_25.c2]) rfl rfl rfl rfl Tryz.sizeOf32 rfl rfl (Nat.le_of_ble_eq_true rfl) rfl) ?_
      rintro _ _ rfl
      refine JQ.seq ?_
      refine JC.seq ?_
      refine JC.regionA [mb b_1 x_25 m_26] 5 mixed (by simp) ?_
      refine JA.take 0 rfl (by kernel_rfl) (NP.th NP.body) (by kernel_rfl) (by kernel_rfl) (by kernel_rfl) rfl (LO.loadK 0 (vs := [.slice x_25.a0 m_26.s.length x_25.c0, .slice x_25.a1 m_26.r.length x_25.c1, .slice x_25.a2 m_26.w.length x_25.c2]) rfl rfl Tryz.isAgg32 Tryz.sizeOf32 rfl rfl) ?_
      refine JA.takeP 1 rfl (by kernel_rfl) (NP.th NP.body) (by kernel_rfl) (by kernel_rfl) rfl (PO.move (v := .int .i64 id) rfl) ?_
      refine JA.takeP 3 rfl (by kernel_rfl) (NP.th NP.body) (by kernel_rfl) (by kernel_rfl) rfl (PO.move (v := .int .i64 n) rfl) ?_
      refine JA.takeP 4 rfl (by kernel_rfl) (NP.th NP.body) (by kernel_rfl) (by kernel_rfl) rfl (PO.add (c := n + 1) rfl rfl (wr (by omega))) ?_
      refine JA.one (i := 2) (by kernel_rfl) ?_
      refine JX.op rfl rfl (JO.call [] Tryz.call267 rfl (N_l09Key id [47, 120] (by omega) (show List.length ([47, 120] : Str) ≤ 2 by decide) (by omega)) rfl (fun _ _ => trivial)) ?_
      rintro _ _ ⟨_, ⟨u_41, e_39, f_42, rfl, rfl⟩, rfl⟩
      refine ⟨(by simp), ?_⟩
      refine JA.one (i := 5) (by kernel_rfl) ?_
      refine JX.late rfl rfl (by decide) (by kernel_rfl) (JO.call [0, 0, 0] Tryz.call233 rfl (N_sSetNum x_25 m_26 k_24 (by omega) (by omega) u_41 (n + 1) (by omega) (by omega)) rfl (fun _ _ => trivial)) ?_
      rintro _ _ ⟨_, ⟨x_49, m_50, e_47, k_48, rfl, rfl⟩, rfl⟩
      refine JA.one (i := 6) (by kernel_rfl) ?_
      refine JX.late rfl rfl (by decide) (by kernel_rfl) (JO.store 3 (vs := [.slice x_49.a0 m_50.s.length x_49.c0, .slice x_49.a1 m_50.r.length x_49.c1, .slice x_49.a2 m_50.w.length x_49.c2]) (cs' := [.slice x_49.a0 m_50.s.length x_49.c0, .slice x_49.a1 m_50.r.length x_49.c1, .slice x_49.a2 m_50.w.length x_49.c2]) rfl rfl rfl rfl Tryz.sizeOf32 rfl rfl (Nat.le_of_ble_eq_true rfl) rfl) ?_
      rintro _ _ rfl
      refine JA.takeP 7 rfl (by kernel_rfl) (NP.th NP.body) (by kernel_rfl) (by kernel_rfl) rfl (PO.assign (v := .int .i64 0) rfl) ?_
      refine JA.done (by kernel_rfl) ?_
      refine JQ.seq ?_
      refine JC.ret ?_
      refine Done.two (.inl rfl) rfl (RV.cell1 (LO.loadK 3 (vs := [.slice x_49.a0 m_50.s.length x_49.c0, .slice x_49.a1 m_50.r.length x_49.c1, .slice x_49.a2 m_50.w.length x_49.c2]) rfl rfl Tryz.isAgg32 Tryz.sizeOf32 rfl rfl) ⟨_, rfl⟩) (RV.tmp (v := .int .i64 0) rfl) (List.sublist_append_left [rC x_49.a0 x_49.c0 m_50.s, rS x_49.a1 x_49.c1 m_50.r, rS x_49.a2 x_49.c2 m_50.w] [mb b_2 x_49 m_50, mb b_1 x_25 m_26]) ?_
      exact ⟨x_49, m_50, 0, (by simp only [MS.endProc, e_3, h_9, h_10, e_15, e_23, e_39, e_47, if_true, if_false, Bool.false_eq_true, Bool.not_true, Bool.not_false]; (repeat (first | rw [if_pos (by omega)] | rw [if_neg (by omega)])); all_goals (first | rfl | simp only [if_true, if_false, Bool.false_eq_true, Bool.not_true, Bool.not_false, e_3, h_9, h_10, e_15, e_23, e_39, e_47])), (k_48.mono (by omega) (by omega)), (by first | omega | (simp only [List.length_append, List.length_cons, List.length_nil, List.length_take, List.length_drop]; omega)), rfl, rfl⟩
    · skip
      have h_10d := h_10
      simp only [Bool.and_eq_true, Bool.and_eq_false_iff, decide_eq_true_eq, decide_eq_false_iff_not] at h_10d
      refine JC.condT (congrArg Value.bool (congrArg Bool.not h_10)) ?_
      refine JC.seq ?_
      refine JC.region ?_
      refine JL.ld rfl (LO.loadK 4 (vs := [.slice x_5.a0 m_6.s.length x_5.c0, .slice x_5.a1 m_6.r.length x_5.c1, .slice x_5.a2 m_6.w.length x_5.c2]) rfl rfl Tryz.isAgg32 Tryz.sizeOf32 rfl rfl) ?_
      refine JL.op rfl (JO.store 3 (vs := [.slice x_5.a0 m_6.s.length x_5.c0, .slice x_5.a1 m_6.r.length x_5.c1, .slice x_5.a2 m_6.w.length x_5.c2]) (cs' := [.slice x_5.a0 m_6.s.length x_5.c0, .slice x_5.a1 m_6.r.length x_5.c1, .slice x_5.a2 m_6.w.length x_5.c2]) rfl rfl rfl rfl Tryz.sizeOf32 rfl rfl (Nat.le_of_ble_eq_true rfl) rfl) ?_
      rintro _ _ rfl
      refine JL.pure rfl (PO.assign (v := .int .i64 4) rfl) ?_
      refine JL.nil ?_
      refine JQ.seq ?_
      refine JC.ret ?_
      refine JQ.thenRet ?_
      refine Done.two (.inl rfl) rfl (RV.cell1 (LO.loadK 3 (vs := [.slice x_5.a0 m_6.s.length x_5.c0, .slice x_5.a1 m_6.r.length x_5.c1, .slice x_5.a2 m_6.w.length x_5.c2]) rfl rfl Tryz.isAgg32 Tryz.sizeOf32 rfl rfl) ⟨_, rfl⟩) (RV.tmp (v := .int .i64 4) rfl) (List.sublist_append_left [rC x_5.a0 x_5.c0 m_6.s, rS x_5.a1 x_5.c1 m_6.r, rS x_5.a2 x_5.c2 m_6.w] [mb b_2 x_5 m_6, mb b_1 x_5 m_6]) ?_
      exact ⟨x_5, m_6, 4, (by simp only [MS.endProc, e_3, h_9, h_10, if_true, if_false, Bool.false_eq_true, Bool.not_true, Bool.not_false]; (repeat (first | rw [if_pos (by omega)] | rw [if_neg (by omega)])); all_goals (first | rfl | simp only [if_true, if_false, Bool.false_eq_true, Bool.not_true, Bool.not_false, e_3, h_9, h_10])), (k_4.mono (by omega) (by omega)), (by first | omega | (simp only [List.length_append, List.length_cons, List.length_nil, List.length_take, List.length_drop]; omega)), rfl, rfl⟩
  · skip
    refine JC.condT (congrArg Value.bool (congrArg Bool.not (decide_eq_false h_9))) ?_
    refine JC.seq ?_
    refine JC.region ?_
    refine JL.ld rfl (LO.loadK 4 (vs := [.slice x_5.a0 m_6.s.length x_5.c0, .slice x_5.a1 m_6.r.length x_5.c1, .slice x_5.a2 m_6.w.length x_5.c2]) rfl rfl Tryz.isAgg32 Tryz.sizeOf32 rfl rfl) ?_
    refine JL.op rfl (JO.store 3 (vs := [.slice x_5.a0 m_6.s.length x_5.c0, .slice x_5.a1 m_6.r.length x_5.c1, .slice x_5.a2 m_6.w.length x_5.c2]) (cs' := [.slice x_5.a0 m_6.s.length x_5.c0, .slice x_5.a1 m_6.r.length x_5.c1, .slice x_5.a2 m_6.w.length x_5.c2]) rfl rfl rfl rfl Tryz.sizeOf32 rfl rfl (Nat.le_of_ble_eq_true rfl) rfl) ?_
    rintro _ _ rfl
    refine JL.pure rfl (PO.assign (v := .int .i64 2) rfl) ?_
    refine JL.nil ?_
    refine JQ.seq ?_
    refine JC.ret ?_
    refine JQ.thenRet ?_
    refine Done.two (.inl rfl) rfl (RV.cell1 (LO.loadK 3 (vs := [.slice x_5.a0 m_6.s.length x_5.c0, .slice x_5.a1 m_6.r.length x_5.c1, .slice x_5.a2 m_6.w.length x_5.c2]) rfl rfl Tryz.isAgg32 Tryz.sizeOf32 rfl rfl) ⟨_, rfl⟩) (RV.tmp (v := .int .i64 2) rfl) (List.sublist_append_left [rC x_5.a0 x_5.c0 m_6.s, rS x_5.a1 x_5.c1 m_6.r, rS x_5.a2 x_5.c2 m_6.w] [mb b_2 x_5 m_6, mb b_1 x_5 m_6]) ?_
    exact ⟨x_5, m_6, 2, (by simp only [MS.endProc, e_3, h_9, if_true, if_false, Bool.false_eq_true, Bool.not_true, Bool.not_false]; (repeat (first | rw [if_pos (by omega)] | rw [if_neg (by omega)])); all_goals (first | rfl | simp only [if_true, if_false, Bool.false_eq_true, Bool.not_true, Bool.not_false, e_3, h_9])), (k_4.mono (by omega) (by omega)), (by first | omega | (simp only [List.length_append, List.length_cons, List.length_nil, List.length_take, List.length_drop]; omega)), rfl, rfl⟩

theorem M_reap (x : MA) (m : MS) {S T : Nat} (hk : m.ok S T) (hS : S ≤ 50000000) (hT : T ≤ 50000000) (parent : Int) (id : Int) (hparent : -9223372036854775808 ≤ parent ∧ parent ≤ 9223372036854775807) (hid : -9223372036854775808 ≤ id ∧ id ≤ 9223372036854775807) :
    Ct Tryz.prog 183 [mv x m, .int .i64 parent, .int .i64 id] (mr x m) (fun _ => True) (fun v A' => ∃ x' m' r0 r1, MS.reap m parent id = (m', r0, r1) ∧ m'.ok (S) (T + S + 5) ∧ (-1 ≤ r0 ∧ r0 ≤ 999) ∧ (0 ≤ r1 ∧ r1 ≤ 9) ∧ v = .tuple #[mv x' m', .int .i64 r0, .int .i64 r1] ∧ A' = mr x' m') := by
  refine Ct.intro Tryz.func183 rfl Tryz.ntmps183 (Nat.le_of_ble_eq_true rfl) fun w0 hpre => ?_
  refine JC.seq ?_
  refine JC.region ?_
  refine JL.op rfl (JO.box (cs := [.slice x.a0 m.s.length x.c0, .slice x.a1 m.r.length x.c1, .slice x.a2 m.w.length x.c2]) rfl rfl) ?_
  rintro _ _ ⟨b_1, rfl, rfl⟩
  refine JL.op rfl (JO.alloc (z := .agg #[.slice none 0 0, .slice none 0 0, .slice none 0 0]) (cs := [.slice none 0 0, .slice none 0 0, .slice none 0 0]) Tryz.zeroValue32 rfl) ?_
  rintro _ _ ⟨b_2, rfl, rfl⟩
  refine JL.pure rfl (PO.assign (v := .int .i64 0) rfl) ?_
  refine JL.pure rfl (PO.assign (v := .int .i64 0) rfl) ?_
  refine JL.nil ?_
  refine JQ.seq ?_
  refine JC.seq ?_
  refine JC.regionA [mb b_1 x m] 7 mixed (by simp) ?_
  refine JA.take 0 rfl (by kernel_rfl) (NP.th NP.body) (by kernel_rfl) (by kernel_rfl) (by kernel_rfl) rfl (LO.loadK 0 (vs := [.slice x.a0 m.s.length x.c0, .slice x.a1 m.r.length x.c1, .slice x.a2 m.w.length x.c2]) rfl rfl Tryz.isAgg32 Tryz.sizeOf32 rfl rfl) ?_
  refine JA.takeP 1 rfl (by kernel_rfl) (NP.th NP.body) (by kernel_rfl) (by kernel_rfl) rfl (PO.move (v := .int .i64 id) rfl) ?_
  refine JA.one (i := 2) (by kernel_rfl) ?_
  refine JX.op rfl rfl (JO.call [] Tryz.call267 rfl (N_l09Key id [47, 112] (by omega) (show List.length ([47, 112] : Str) ≤ 2 by decide) (by omega)) rfl (fun _ _ => trivial)) ?_
  rintro _ _ ⟨_, ⟨u_9, e_7, f_10, rfl, rfl⟩, rfl⟩
  refine ⟨(by simp), ?_⟩
  refine JA.one (i := 3) (by kernel_rfl) ?_
  refine JX.op rfl rfl (JO.call [2, 2, 2] Tryz.call228 rfl (N_sNumAt x m hk (by omega) (by omega) u_9) rfl (fun _ _ => trivial)) ?_
  rintro _ _ ⟨_, ⟨x_19, m_20, n_21, e_17, k_18, f_22, rfl, rfl⟩, rfl⟩
  refine ⟨(by simp), ?_⟩
  refine JA.takeP 4 rfl (by kernel_rfl) (NP.th NP.body) (by kernel_rfl) (by kernel_rfl) rfl (PO.move (v := .tuple #[mv x_19 m_20, .int .i64 n_21]) rfl) ?_
  refine JA.takeP 5 rfl (by kernel_rfl) (NP.th NP.body) (by kernel_rfl) (by kernel_rfl) rfl (PO.extract (v := mv x_19 m_20) rfl rfl) ?_
  refine JA.takeP 6 rfl (by kernel_rfl) (NP.th NP.body) (by kernel_rfl) (by kernel_rfl) rfl (PO.extract (v := .int .i64 n_21) rfl rfl) ?_
  refine JA.one (i := 7) (by kernel_rfl) ?_
  refine JX.late rfl rfl (by decide) (by kernel_rfl) (JO.store 4 (vs := [.slice x_19.a0 m_20.s.length x_19.c0, .slice x_19.a1 m_20.r.length x_19.c1, .slice x_19.a2 m_20.w.length x_19.c2]) (cs' := [.slice x_19.a0 m_20.s.length x_19.c0, .slice x_19.a1 m_20.r.length x_19.c1, .slice x_19.a2 m_20.w.length x_19.c2]) rfl rfl rfl rfl Tryz.sizeOf32 rfl rfl (Nat.le_of_ble_eq_true rfl) rfl) ?_
  rintro _ _ rfl
  refine JA.takeP 8 rfl (by kernel_rfl) (NP.th NP.body) (by kernel_rfl) (by kernel_rfl) rfl (PO.assign (v := .int .i64 n_21) rfl) ?_
  refine JA.done (by kernel_rfl) ?_
  refine JQ.seq ?_
  refine JC.seq ?_
  refine JC.seq ?_
  refine JC.region ?_
  refine JL.pure rfl (PO.move (v := .int .i64 n_21) rfl) ?_
  refine JL.pure rfl (PO.eqlI rfl rfl) ?_
  refine JL.pure rfl (PO.move (v := .bool (decide (n_21 = 0))) rfl) ?_
  by_cases h_23 : n_21 = 0
  · skip
    refine JL.guardOff (b := true) rfl rfl rfl (congrArg Value.bool (decide_eq_true h_23)) ?_
    refine JL.guardOff (b := true) rfl rfl rfl (congrArg Value.bool (decide_eq_true h_23)) ?_
    refine JL.guardOff (b := true) rfl rfl rfl (congrArg Value.bool (decide_eq_true h_23)) ?_
    refine JL.pure rfl (PO.pickT (v := .bool true) (congrArg Value.bool (decide_eq_true h_23)) rfl) ?_
    refine JL.nil ?_
    refine JQ.seq ?_
    refine JC.condT (congrArg Value.bool rfl) ?_
    refine JC.seq ?_
    refine JC.region ?_
    refine JL.ld rfl (LO.loadK 4 (vs := [.slice x_19.a0 m_20.s.length x_19.c0, .slice x_19.a1 m_20.r.length x_19.c1, .slice x_19.a2 m_20.w.length x_19.c2]) rfl rfl Tryz.isAgg32 Tryz.sizeOf32 rfl rfl) ?_
    refine JL.op rfl (JO.store 3 (vs := [.slice x_19.a0 m_20.s.length x_19.c0, .slice x_19.a1 m_20.r.length x_19.c1, .slice x_19.a2 m_20.w.length x_19.c2]) (cs' := [.slice x_19.a0 m_20.s.length x_19.c0, .slice x_19.a1 m_20.r.length x_19.c1, .slice x_19.a2 m_20.w.length x_19.c2]) rfl rfl rfl rfl Tryz.sizeOf32 rfl rfl (Nat.le_of_ble_eq_true rfl) rfl) ?_
    rintro _ _ rfl
    refine JL.pure rfl (PO.assign (v := .int .i64 0) rfl) ?_
    refine JL.pure rfl (PO.assign (v := .int .i64 2) rfl) ?_
    refine JL.nil ?_
    refine JQ.seq ?_
    refine JC.ret ?_
    refine JQ.thenRet ?_
    refine Done.three (.inl rfl) rfl (RV.cell1 (LO.loadK 3 (vs := [.slice x_19.a0 m_20.s.length x_19.c0, .slice x_19.a1 m_20.r.length x_19.c1, .slice x_19.a2 m_20.w.length x_19.c2]) rfl rfl Tryz.isAgg32 Tryz.sizeOf32 rfl rfl) ⟨_, rfl⟩) (RV.tmp (v := .int .i64 0) rfl) (RV.tmp (v := .int .i64 2) rfl) (List.sublist_append_left [rC x_19.a0 x_19.c0 m_20.s, rS x_19.a1 x_19.c1 m_20.r, rS x_19.a2 x_19.c2 m_20.w] [mb b_2 x_19 m_20, mb b_1 x_19 m_20]) ?_
    exact ⟨x_19, m_20, 0, 2, (by simp only [MS.reap, e_7, e_17, h_23, if_true, if_false, Bool.false_eq_true, Bool.not_true, Bool.not_false]; (repeat (first | rw [if_pos (by omega)] | rw [if_neg (by omega)])); all_goals (first | rfl | simp only [if_true, if_false, Bool.false_eq_true, Bool.not_true, Bool.not_false, e_7, e_17, h_23])), (k_18.mono (by omega) (by omega)), (by first | omega | (simp only [List.length_append, List.length_cons, List.length_nil, List.length_take, List.length_drop]; omega)), (by first | omega | (simp only [List.length_append, List.length_cons, List.length_nil, List.length_take, List.length_drop]; omega)), rfl, rfl⟩
  · skip
    refine JL.guardOn rfl rfl rfl (congrArg Value.bool (decide_eq_false h_23)) (JO.ofLO (LO.pure (PO.move (v := .int .i64 n_21) rfl))) ?_
    rintro _ _ ⟨rfl, rfl⟩
    refine JL.guardOn rfl rfl rfl (congrArg Value.bool (decide_eq_false h_23)) (JO.ofLO (LO.pure (PO.move (v := .int .i64 parent) rfl))) ?_
    rintro _ _ ⟨rfl, rfl⟩
    refine JL.guardOn rfl rfl rfl (congrArg Value.bool (decide_eq_false h_23)) (JO.ofLO (LO.pure (PO.neqI rfl rfl))) ?_
    rintro _ _ ⟨rfl, rfl⟩
    refine JL.pure rfl (PO.pickF (v := .bool (!(decide (n_21 = parent)))) (congrArg Value.bool (decide_eq_false h_23)) rfl) ?_
    refine JL.nil ?_
    refine JQ.seq ?_
    by_cases h_24 : n_21 = parent
    · skip
      refine JC.condF (congrArg Value.bool (congrArg Bool.not (decide_eq_true h_24))) ?_
      refine JC.skip ?_
      refine JQ.seq ?_
      refine JC.seq ?_
      refine JC.region ?_
      refine JL.ld rfl (LO.loadK 4 (vs := [.slice x_19.a0 m_20.s.length x_19.c0, .slice x_19.a1 m_20.r.length x_19.c1, .slice x_19.a2 m_20.w.length x_19.c2]) rfl rfl Tryz.isAgg32 Tryz.sizeOf32 rfl rfl) ?_
      refine JL.pure rfl (PO.move (v := .int .i64 id) rfl) ?_
      refine JL.op rfl (JO.call [0, 0, 0] Tryz.call187 rfl (M_state x_19 m_20 k_18 (by omega) (by omega) id (by omega)) rfl (fun _ _ => trivial)) ?_
      rintro _ _ ⟨_, ⟨x_27, m_28, n_29, e_25, k_26, f_30, rfl, rfl⟩, rfl⟩
      refine JL.pure rfl (PO.move (v := .tuple #[mv x_27 m_28, .int .i64 n_29]) rfl) ?_
      refine JL.pure rfl (PO.extract (v := mv x_27 m_28) rfl rfl) ?_
      refine JL.pure rfl (PO.extract (v := .int .i64 n_29) rfl rfl) ?_
      refine JL.op rfl (JO.store 4 (vs := [.slice x_27.a0 m_28.s.length x_27.c0, .slice x_27.a1 m_28.r.length x_27.c1, .slice x_27.a2 m_28.w.length x_27.c2]) (cs' := [.slice x_27.a0 m_28.s.length x_27.c0, .slice x_27.a1 m_28.r.length x_27.c1, .slice x_27.a2 m_28.w.length x_27.c2]) rfl rfl rfl rfl Tryz.sizeOf32 rfl rfl (Nat.le_of_ble_eq_true rfl) rfl) ?_
      rintro _ _ rfl
      refine JL.pure rfl (PO.assign (v := .int .i64 n_29) rfl) ?_
      refine JL.nil ?_
      refine JQ.seq ?_
      refine JC.seq ?_
      refine JC.seq ?_
      refine JC.region ?_
      refine JL.pure rfl (PO.move (v := .int .i64 n_29) rfl) ?_
      refine JL.pure rfl (PO.eqlI rfl rfl) ?_
      refine JL.nil ?_
      refine JQ.seq ?_
      by_cases h_31 : n_29 = 1
      · skip
        refine JC.condT (congrArg Value.bool (decide_eq_true h_31)) ?_
        refine JC.seq ?_
        refine JC.region ?_
        refine JL.ld rfl (LO.loadK 4 (vs := [.slice x_27.a0 m_28.s.length x_27.c0, .slice x_27.a1 m_28.r.length x_27.c1, .slice x_27.a2 m_28.w.length x_27.c2]) rfl rfl Tryz.isAgg32 Tryz.sizeOf32 rfl rfl) ?_
        refine JL.op rfl (JO.store 3 (vs := [.slice x_27.a0 m_28.s.length x_27.c0, .slice x_27.a1 m_28.r.length x_27.c1, .slice x_27.a2 m_28.w.length x_27.c2]) (cs' := [.slice x_27.a0 m_28.s.length x_27.c0, .slice x_27.a1 m_28.r.length x_27.c1, .slice x_27.a2 m_28.w.length x_27.c2]) rfl rfl rfl rfl Tryz.sizeOf32 rfl rfl (Nat.le_of_ble_eq_true rfl) rfl) ?_
        rintro _ _ rfl
        refine JL.pure rfl (PO.assign (v := .int .i64 0) rfl) ?_
        refine JL.pure rfl (PO.assign (v := .int .i64 5) rfl) ?_
        refine JL.nil ?_
        refine JQ.seq ?_
        refine JC.ret ?_
        refine JQ.thenRet ?_
        refine Done.three (.inl rfl) rfl (RV.cell1 (LO.loadK 3 (vs := [.slice x_27.a0 m_28.s.length x_27.c0, .slice x_27.a1 m_28.r.length x_27.c1, .slice x_27.a2 m_28.w.length x_27.c2]) rfl rfl Tryz.isAgg32 Tryz.sizeOf32 rfl rfl) ⟨_, rfl⟩) (RV.tmp (v := .int .i64 0) rfl) (RV.tmp (v := .int .i64 5) rfl) (List.sublist_append_left [rC x_27.a0 x_27.c0 m_28.s, rS x_27.a1 x_27.c1 m_28.r, rS x_27.a2 x_27.c2 m_28.w] [mb b_2 x_27 m_28, mb b_1 x_27 m_28]) ?_
        exact ⟨x_27, m_28, 0, 5, (by simp only [MS.reap, e_7, e_17, h_23, h_24, e_25, h_31, if_true, if_false, Bool.false_eq_true, Bool.not_true, Bool.not_false]; (repeat (first | rw [if_pos (by omega)] | rw [if_neg (by omega)])); all_goals (first | rfl | simp only [if_true, if_false, Bool.false_eq_true, Bool.not_true, Bool.not_false, e_7, e_17, h_23, h_24, e_25, h_31])), (k_26.mono (by omega) (by omega)), (by first | omega | (simp only [List.length_append, List.length_cons, List.length_nil, List.length_take, List.length_drop]; omega)), (by first | omega | (simp only [List.length_append, List.length_cons, List.length_nil, List.length_take, List.length_drop]; omega)), rfl, rfl⟩
      · skip
        refine JC.condF (congrArg Value.bool (decide_eq_false h_31)) ?_
        refine JC.skip ?_
        refine JQ.seq ?_
        refine JC.seq ?_
        refine JC.seq ?_
        refine JC.region ?_
        refine JL.pure rfl (PO.move (v := .int .i64 n_29) rfl) ?_
        refine JL.pure rfl (PO.neqI rfl rfl) ?_
        refine JL.nil ?_
        refine JQ.seq ?_
        by_cases h_32 : n_29 = 2
        · skip
          refine JC.condF (congrArg Value.bool (congrArg Bool.not (decide_eq_true h_32))) ?_
          refine JC.skip ?_
          refine JQ.seq ?_
          refine JC.seq ?_
          refine JC.regionA [mb b_1 x_27 m_28] 7 mixed (by simp) ?_
          refine JA.take 0 rfl (by kernel_rfl) (NP.th NP.body) (by kernel_rfl) (by kernel_rfl) (by kernel_rfl) rfl (LO.loadK 0 (vs := [.slice x_27.a0 m_28.s.length x_27.c0, .slice x_27.a1 m_28.r.length x_27.c1, .slice x_27.a2 m_28.w.length x_27.c2]) rfl rfl Tryz.isAgg32 Tryz.sizeOf32 rfl rfl) ?_
          refine JA.takeP 1 rfl (by kernel_rfl) (NP.th NP.body) (by kernel_rfl) (by kernel_rfl) rfl (PO.move (v := .int .i64 id) rfl) ?_
          refine JA.one (i := 2) (by kernel_rfl) ?_
          refine JX.op rfl rfl (JO.call [] Tryz.call267 rfl (N_l09Key id [47, 120] (by omega) (show List.length ([47, 120] : Str) ≤ 2 by decide) (by omega)) rfl (fun _ _ => trivial)) ?_
          rintro _ _ ⟨_, ⟨u_39, e_37, f_40, rfl, rfl⟩, rfl⟩
          refine ⟨(by simp), ?_⟩
          refine JA.one (i := 3) (by kernel_rfl) ?_
          refine JX.op rfl rfl (JO.call [0, 0, 0] Tryz.call228 rfl (N_sNumAt x_27 m_28 k_26 (by omega) (by omega) u_39) rfl (fun _ _ => trivial)) ?_
          rintro _ _ ⟨_, ⟨x_49, m_50, n_51, e_47, k_48, f_52, rfl, rfl⟩, rfl⟩
          refine ⟨(by simp), ?_⟩
          refine JA.takeP 4 rfl (by kernel_rfl) (NP.th NP.body) (by kernel_rfl) (by kernel_rfl) rfl (PO.move (v := .tuple #[mv x_49 m_50, .int .i64 n_51]) rfl) ?_
          refine JA.takeP 5 rfl (by kernel_rfl) (NP.th NP.body) (by kernel_rfl) (by kernel_rfl) rfl (PO.extract (v := mv x_49 m_50) rfl rfl) ?_
          refine JA.takeP 6 rfl (by kernel_rfl) (NP.th NP.body) (by kernel_rfl) (by kernel_rfl) rfl (PO.extract (v := .int .i64 n_51) rfl rfl) ?_
          refine JA.one (i := 7) (by kernel_rfl) ?_
          refine JX.late rfl rfl (by decide) (by kernel_rfl) (JO.store 4 (vs := [.slice x_49.a0 m_50.s.length x_49.c0, .slice x_49.a1 m_50.r.length x_49.c1, .slice x_49.a2 m_50.w.length x_49.c2]) (cs' := [.slice x_49.a0 m_50.s.length x_49.c0, .slice x_49.a1 m_50.r.length x_49.c1, .slice x_49.a2 m_50.w.length x_49.c2]) rfl rfl rfl rfl Tryz.sizeOf32 rfl rfl (Nat.le_of_ble_eq_true rfl) rfl) ?_
          rintro _ _ rfl
          refine JA.takeP 8 rfl (by kernel_rfl) (NP.th NP.body) (by kernel_rfl) (by kernel_rfl) rfl (PO.assign (v := .int .i64 n_51) rfl) ?_
          refine JA.done (by kernel_rfl) ?_
          refine JQ.seq ?_
          refine JC.seq ?_
          refine JC.regionA [mb b_1 x_49 m_50] 6 mixed (by simp) ?_
          refine JA.take 0 rfl (by kernel_rfl) (NP.th NP.body) (by kernel_rfl) (by kernel_rfl) (by kernel_rfl) rfl (LO.loadK 0 (vs := [.slice x_49.a0 m_50.s.length x_49.c0, .slice x_49.a1 m_50.r.length x_49.c1, .slice x_49.a2 m_50.w.length x_49.c2]) rfl rfl Tryz.isAgg32 Tryz.sizeOf32 rfl rfl) ?_
          refine JA.takeP 1 rfl (by kernel_rfl) (NP.th NP.body) (by kernel_rfl) (by kernel_rfl) rfl (PO.move (v := .int .i64 id) rfl) ?_
          refine JA.takeP 4 rfl (by kernel_rfl) (NP.th NP.body) (by kernel_rfl) (by kernel_rfl) rfl (PO.move (v := .int .i64 n_51) rfl) ?_
          refine JA.takeP 5 rfl (by kernel_rfl) (NP.th NP.body) (by kernel_rfl) (by kernel_rfl) rfl (PO.sub (c := n_51 - 1) rfl rfl (wr (by omega))) ?_
          refine JA.one (i := 2) (by kernel_rfl) ?_
          refine JX.op rfl rfl (JO.call [] Tryz.call267 rfl (N_l09Key id [47] (by omega) (show List.length ([47] : Str) ≤ 1 by decide) (by omega)) rfl (fun _ _ => trivial)) ?_
          rintro _ _ ⟨_, ⟨u_67, e_65, f_68, rfl, rfl⟩, rfl⟩
          refine ⟨(by simp), ?_⟩
          refine JA.one (i := 3) (by kernel_rfl) ?_
          refine JX.op rfl rfl (JO.call [0, 0, 0] Tryz.call257 rfl (M_wipe x_49 m_50 k_48 (by omega) (by omega) u_67 (by omega)) rfl (fun _ _ => trivial)) ?_
          rintro _ _ ⟨_, ⟨x_75, m_76, e_73, k_74, rfl, rfl⟩, rfl⟩
          refine ⟨(by simp), ?_⟩
          refine JA.one (i := 6) (by kernel_rfl) ?_
          refine JX.late rfl rfl (by decide) (by kernel_rfl) (JO.store 3 (vs := [.slice x_75.a0 m_76.s.length x_75.c0, .slice x_75.a1 m_76.r.length x_75.c1, .slice x_75.a2 m_76.w.length x_75.c2]) (cs' := [.slice x_75.a0 m_76.s.length x_75.c0, .slice x_75.a1 m_76.r.length x_75.c1, .slice x_75.a2 m_76.w.length x_75.c2]) rfl rfl rfl rfl Tryz.sizeOf32 rfl rfl (Nat.le_of_ble_eq_true rfl) rfl) ?_
          rintro _ _ rfl
          refine JA.takeP 7 rfl (by kernel_rfl) (NP.th NP.body) (by kernel_rfl) (by kernel_rfl) rfl (PO.assign (v := .int .i64 (n_51 - 1)) rfl) ?_
          refine JA.takeP 8 rfl (by kernel_rfl) (NP.th NP.body) (by kernel_rfl) (by kernel_rfl) rfl (PO.assign (v := .int .i64 0) rfl) ?_
          refine JA.done (by kernel_rfl) ?_
          refine JQ.seq ?_
          refine JC.ret ?_
          refine Done.three (.inl rfl) rfl (RV.cell1 (LO.loadK 3 (vs := [.slice x_75.a0 m_76.s.length x_75.c0, .slice x_75.a1 m_76.r.length x_75.c1, .slice x_75.a2 m_76.w.length x_75.c2]) rfl rfl Tryz.isAgg32 Tryz.sizeOf32 rfl rfl) ⟨_, rfl⟩) (RV.tmp (v := .int .i64 (n_51 - 1)) rfl) (RV.tmp (v := .int .i64 0) rfl) (List.sublist_append_left [rC x_75.a0 x_75.c0 m_76.s, rS x_75.a1 x_75.c1 m_76.r, rS x_75.a2 x_75.c2 m_76.w] [mb b_2 x_75 m_76, mb b_1 x_49 m_50]) ?_
          exact ⟨x_75, m_76, (n_51 - 1), 0, (by simp only [MS.reap, e_7, e_17, h_23, h_24, e_25, h_31, h_32, e_37, e_47, e_65, e_73, if_true, if_false, Bool.false_eq_true, Bool.not_true, Bool.not_false]; (repeat (first | rw [if_pos (by omega)] | rw [if_neg (by omega)])); all_goals (first | rfl | simp only [if_true, if_false, Bool.false_eq_true, Bool.not_true, Bool.not_false, e_7, e_17, h_23, h_24, e_25, h_31, h_32, e_37, e_47, e_65, e_73])), (k_74.mono (by omega) (by omega)), (by first | omega | (simp only [List.length_append, List.length_cons, List.length_nil, List.length_take, List.length_drop]; omega)), (by first | omega | (simp only [List.length_append, List.length_cons, List.length_nil, List.length_take, List.length_drop]; omega)), rfl, rfl⟩
        · skip
          refine JC.condT (congrArg Value.bool (congrArg Bool.not (decide_eq_false h_32))) ?_
          refine JC.seq ?_
          refine JC.region ?_
          refine JL.ld rfl (LO.loadK 4 (vs := [.slice x_27.a0 m_28.s.length x_27.c0, .slice x_27.a1 m_28.r.length x_27.c1, .slice x_27.a2 m_28.w.length x_27.c2]) rfl rfl Tryz.isAgg32 Tryz.sizeOf32 rfl rfl) ?_
          refine JL.op rfl (JO.store 3 (vs := [.slice x_27.a0 m_28.s.length x_27.c0, .slice x_27.a1 m_28.r.length x_27.c1, .slice x_27.a2 m_28.w.length x_27.c2]) (cs' := [.slice x_27.a0 m_28.s.length x_27.c0, .slice x_27.a1 m_28.r.length x_27.c1, .slice x_27.a2 m_28.w.length x_27.c2]) rfl rfl rfl rfl Tryz.sizeOf32 rfl rfl (Nat.le_of_ble_eq_true rfl) rfl) ?_
          rintro _ _ rfl
          refine JL.pure rfl (PO.assign (v := .int .i64 0) rfl) ?_
          refine JL.pure rfl (PO.assign (v := .int .i64 2) rfl) ?_
          refine JL.nil ?_
          refine JQ.seq ?_
          refine JC.ret ?_
          refine JQ.thenRet ?_
          refine Done.three (.inl rfl) rfl (RV.cell1 (LO.loadK 3 (vs := [.slice x_27.a0 m_28.s.length x_27.c0, .slice x_27.a1 m_28.r.length x_27.c1, .slice x_27.a2 m_28.w.length x_27.c2]) rfl rfl Tryz.isAgg32 Tryz.sizeOf32 rfl rfl) ⟨_, rfl⟩) (RV.tmp (v := .int .i64 0) rfl) (RV.tmp (v := .int .i64 2) rfl) (List.sublist_append_left [rC x_27.a0 x_27.c0 m_28.s, rS x_27.a1 x_27.c1 m_28.r, rS x_27.a2 x_27.c2 m_28.w] [mb b_2 x_27 m_28, mb b_1 x_27 m_28]) ?_
          exact ⟨x_27, m_28, 0, 2, (by simp only [MS.reap, e_7, e_17, h_23, h_24, e_25, h_31, h_32, if_true, if_false, Bool.false_eq_true, Bool.not_true, Bool.not_false]; (repeat (first | rw [if_pos (by omega)] | rw [if_neg (by omega)])); all_goals (first | rfl | simp only [if_true, if_false, Bool.false_eq_true, Bool.not_true, Bool.not_false, e_7, e_17, h_23, h_24, e_25, h_31, h_32])), (k_26.mono (by omega) (by omega)), (by first | omega | (simp only [List.length_append, List.length_cons, List.length_nil, List.length_take, List.length_drop]; omega)), (by first | omega | (simp only [List.length_append, List.length_cons, List.length_nil, List.length_take, List.length_drop]; omega)), rfl, rfl⟩
    · skip
      refine JC.condT (congrArg Value.bool (congrArg Bool.not (decide_eq_false h_24))) ?_
      refine JC.seq ?_
      refine JC.region ?_
      refine JL.ld rfl (LO.loadK 4 (vs := [.slice x_19.a0 m_20.s.length x_19.c0, .slice x_19.a1 m_20.r.length x_19.c1, .slice x_19.a2 m_20.w.length x_19.c2]) rfl rfl Tryz.isAgg32 Tryz.sizeOf32 rfl rfl) ?_
      refine JL.op rfl (JO.store 3 (vs := [.slice x_19.a0 m_20.s.length x_19.c0, .slice x_19.a1 m_20.r.length x_19.c1, .slice x_19.a2 m_20.w.length x_19.c2]) (cs' := [.slice x_19.a0 m_20.s.length x_19.c0, .slice x_19.a1 m_20.r.length x_19.c1, .slice x_19.a2 m_20.w.length x_19.c2]) rfl rfl rfl rfl Tryz.sizeOf32 rfl rfl (Nat.le_of_ble_eq_true rfl) rfl) ?_
      rintro _ _ rfl
      refine JL.pure rfl (PO.assign (v := .int .i64 0) rfl) ?_
      refine JL.pure rfl (PO.assign (v := .int .i64 2) rfl) ?_
      refine JL.nil ?_
      refine JQ.seq ?_
      refine JC.ret ?_
      refine JQ.thenRet ?_
      refine Done.three (.inl rfl) rfl (RV.cell1 (LO.loadK 3 (vs := [.slice x_19.a0 m_20.s.length x_19.c0, .slice x_19.a1 m_20.r.length x_19.c1, .slice x_19.a2 m_20.w.length x_19.c2]) rfl rfl Tryz.isAgg32 Tryz.sizeOf32 rfl rfl) ⟨_, rfl⟩) (RV.tmp (v := .int .i64 0) rfl) (RV.tmp (v := .int .i64 2) rfl) (List.sublist_append_left [rC x_19.a0 x_19.c0 m_20.s, rS x_19.a1 x_19.c1 m_20.r, rS x_19.a2 x_19.c2 m_20.w] [mb b_2 x_19 m_20, mb b_1 x_19 m_20]) ?_
      exact ⟨x_19, m_20, 0, 2, (by simp only [MS.reap, e_7, e_17, h_23, h_24, if_true, if_false, Bool.false_eq_true, Bool.not_true, Bool.not_false]; (repeat (first | rw [if_pos (by omega)] | rw [if_neg (by omega)])); all_goals (first | rfl | simp only [if_true, if_false, Bool.false_eq_true, Bool.not_true, Bool.not_false, e_7, e_17, h_23, h_24])), (k_18.mono (by omega) (by omega)), (by first | omega | (simp only [List.length_append, List.length_cons, List.length_nil, List.length_take, List.length_drop]; omega)), (by first | omega | (simp only [List.length_append, List.length_cons, List.length_nil, List.length_take, List.length_drop]; omega)), rfl, rfl⟩

theorem N_takeSignal (p : Nat) (x : MA) (m : MS) {S T : Nat} (hk : m.ok S T) (hS : S ≤ 50000000) (hT : T ≤ 50000000) (id : Int) (hid : -9223372036854775808 ≤ id ∧ id ≤ 9223372036854775807) :
    Ct Tryz.prog 191 [.pointer (some ⟨p, 0, none⟩), .int .i64 id] (mb p x m :: mr x m) (fun _ => True) (fun v A' => ∃ x' m' r0 r1, MS.takeSignal m id = (m', r0, r1) ∧ m'.ok (S + 1) (T + 5) ∧ (0 ≤ r0 ∧ r0 ≤ 999) ∧ (0 ≤ r1 ∧ r1 ≤ 9) ∧ v = .tuple #[.int .i64 r0, .int .i64 r1] ∧ A' = mb p x' m' :: mr x' m') := by
  refine Ct.intro Tryz.func191 rfl Tryz.ntmps191 (Nat.le_of_ble_eq_true rfl) fun w0 hpre => ?_
  refine JC.seq ?_
  refine JC.region ?_
  refine JL.pure rfl (PO.assign (v := .int .i64 0) rfl) ?_
  refine JL.pure rfl (PO.assign (v := .int .i64 0) rfl) ?_
  refine JL.nil ?_
  refine JQ.seq ?_
  refine JC.seq ?_
  refine JC.region ?_
  refine JL.pure rfl (PO.move (v := .pointer (some ⟨p, 0, none⟩)) rfl) ?_
  refine JL.pure rfl (PO.move (v := .int .i64 id) rfl) ?_
  refine JL.op rfl (JO.call [] Tryz.call269 rfl (N_signalKey id [47, 104] (by omega) (show List.length ([47, 104] : Str) ≤ 2 by decide) (by omega)) rfl (fun _ _ => trivial)) ?_
  rintro _ _ ⟨_, ⟨u_3, e_1, f_4, rfl, rfl⟩, rfl⟩
  refine JL.op rfl (JO.call [0, 0, 0, 0] Tryz.call170 rfl (N_num p x m hk (by omega) (by omega) u_3) rfl (fun _ _ => trivial)) ?_
  rintro _ _ ⟨_, ⟨x_7, m_8, n_9, e_5, k_6, f_10, rfl, rfl⟩, rfl⟩
  refine JL.pure rfl (PO.assign (v := .int .i64 n_9) rfl) ?_
  refine JL.nil ?_
  refine JQ.seq ?_
  refine JC.seq ?_
  refine JC.seq ?_
  refine JC.region ?_
  refine JL.pure rfl (PO.move (v := .pointer (some ⟨p, 0, none⟩)) rfl) ?_
  refine JL.pure rfl (PO.move (v := .int .i64 id) rfl) ?_
  refine JL.op rfl (JO.call [] Tryz.call269 rfl (N_signalKey id [47, 116] (by omega) (show List.length ([47, 116] : Str) ≤ 2 by decide) (by omega)) rfl (fun _ _ => trivial)) ?_
  rintro _ _ ⟨_, ⟨u_13, e_11, f_14, rfl, rfl⟩, rfl⟩
  refine JL.op rfl (JO.call [0, 0, 0, 0] Tryz.call170 rfl (N_num p x_7 m_8 k_6 (by omega) (by omega) u_13) rfl (fun _ _ => trivial)) ?_
  rintro _ _ ⟨_, ⟨x_17, m_18, n_19, e_15, k_16, f_20, rfl, rfl⟩, rfl⟩
  refine JL.pure rfl (PO.move (v := .int .i64 n_9) rfl) ?_
  refine JL.pure rfl (PO.eqlI rfl rfl) ?_
  refine JL.nil ?_
  refine JQ.seq ?_
  by_cases h_21 : n_19 = n_9
  · skip
    refine JC.condT (congrArg Value.bool (decide_eq_true h_21)) ?_
    refine JC.seq ?_
    refine JC.region ?_
    refine JL.pure rfl (PO.assign (v := .int .i64 0) rfl) ?_
    refine JL.pure rfl (PO.assign (v := .int .i64 5) rfl) ?_
    refine JL.nil ?_
    refine JQ.seq ?_
    refine JC.ret ?_
    refine JQ.thenRet ?_
    refine Done.two (.inl rfl) rfl (RV.tmp (v := .int .i64 0) rfl) (RV.tmp (v := .int .i64 5) rfl) (List.Sublist.refl _) ?_
    exact ⟨x_17, m_18, 0, 5, (by simp only [MS.takeSignal, e_1, e_5, e_11, e_15, h_21, if_true, if_false, Bool.false_eq_true, Bool.not_true, Bool.not_false]; (repeat (first | rw [if_pos (by omega)] | rw [if_neg (by omega)])); all_goals (first | rfl | simp only [if_true, if_false, Bool.false_eq_true, Bool.not_true, Bool.not_false, e_1, e_5, e_11, e_15, h_21])), (k_16.mono (by omega) (by omega)), (by first | omega | (simp only [List.length_append, List.length_cons, List.length_nil, List.length_take, List.length_drop]; omega)), (by first | omega | (simp only [List.length_append, List.length_cons, List.length_nil, List.length_take, List.length_drop]; omega)), rfl, rfl⟩
  · skip
    refine JC.condF (congrArg Value.bool (decide_eq_false h_21)) ?_
    refine JC.skip ?_
    refine JQ.seq ?_
    refine JC.seq ?_
    refine JC.region ?_
    refine JL.pure rfl (PO.move (v := .int .i64 id) rfl) ?_
    refine JL.op rfl (JO.call [] Tryz.call269 rfl (N_signalKey id [47, 113, 47] (by omega) (show List.length ([47, 113, 47] : Str) ≤ 3 by decide) (by omega)) rfl (fun _ _ => trivial)) ?_
    rintro _ _ ⟨_, ⟨u_24, e_22, f_25, rfl, rfl⟩, rfl⟩
    refine JL.pure rfl (PO.move (v := .int .i64 n_9) rfl) ?_
    refine JL.pure rfl (PO.add (c := n_9 + 1) rfl rfl (wr (by omega))) ?_
    refine JL.op rfl (JO.call [] Tryz.call215 rfl (N_keyNum u_24 (n_9 + 1) [] (Nat.le_refl _) (by omega) (show List.length ([] : Str) ≤ 0 by decide) (by omega)) rfl (fun _ _ => trivial)) ?_
    rintro _ _ ⟨_, ⟨u_28, e_26, f_29, rfl, rfl⟩, rfl⟩
    refine JL.pure rfl (PO.assign (v := str u_28) rfl) ?_
    refine JL.nil ?_
    refine JQ.seq ?_
    refine JC.seq ?_
    refine JC.region ?_
    refine JL.pure rfl (PO.move (v := .pointer (some ⟨p, 0, none⟩)) rfl) ?_
    refine JL.pure rfl (PO.move (v := str u_28) rfl) ?_
    refine JL.op rfl (JO.call [0, 0, 0, 0] Tryz.call170 rfl (N_num p x_17 m_18 k_16 (by omega) (by omega) u_28) rfl (fun _ _ => trivial)) ?_
    rintro _ _ ⟨_, ⟨x_32, m_33, n_34, e_30, k_31, f_35, rfl, rfl⟩, rfl⟩
    refine JL.pure rfl (PO.assign (v := .int .i64 n_34) rfl) ?_
    refine JL.nil ?_
    refine JQ.seq ?_
    refine JC.seq ?_
    refine JC.region ?_
    refine JL.pure rfl (PO.move (v := .pointer (some ⟨p, 0, none⟩)) rfl) ?_
    refine JL.pure rfl (PO.move (v := str u_28) rfl) ?_
    refine JL.op rfl (JO.call [0, 0, 0, 0] Tryz.call240 rfl (N_layNil p x_32 m_33 k_31 (by omega) (by omega) u_28 (by omega)) rfl (fun _ _ => trivial)) ?_
    rintro _ _ ⟨_, ⟨x_38, m_39, e_36, k_37, rfl, rfl⟩, rfl⟩
    refine JL.nil ?_
    refine JQ.seq ?_
    refine JC.seq ?_
    refine JC.region ?_
    refine JL.pure rfl (PO.move (v := .pointer (some ⟨p, 0, none⟩)) rfl) ?_
    refine JL.pure rfl (PO.move (v := .int .i64 id) rfl) ?_
    refine JL.op rfl (JO.call [] Tryz.call269 rfl (N_signalKey id [47, 104] (by omega) (show List.length ([47, 104] : Str) ≤ 2 by decide) (by omega)) rfl (fun _ _ => trivial)) ?_
    rintro _ _ ⟨_, ⟨u_42, e_40, f_43, rfl, rfl⟩, rfl⟩
    have hqe_40 := e_1.symm.trans e_40
    subst hqe_40
    refine JL.pure rfl (PO.move (v := .int .i64 n_9) rfl) ?_
    refine JL.pure rfl (PO.add (c := n_9 + 1) rfl rfl (wr (by omega))) ?_
    refine JL.op rfl (JO.call [0, 0, 0, 0] Tryz.call241 rfl (N_setNum p x_38 m_39 k_37 (by omega) (by omega) u_3 (n_9 + 1) (by omega) (by omega)) rfl (fun _ _ => trivial)) ?_
    rintro _ _ ⟨_, ⟨x_46, m_47, e_44, k_45, rfl, rfl⟩, rfl⟩
    refine JL.nil ?_
    refine JQ.seq ?_
    refine JC.seq ?_
    refine JC.region ?_
    refine JL.pure rfl (PO.move (v := .int .i64 n_34) rfl) ?_
    refine JL.pure rfl (PO.assign (v := .int .i64 n_34) rfl) ?_
    refine JL.pure rfl (PO.assign (v := .int .i64 0) rfl) ?_
    refine JL.nil ?_
    refine JQ.seq ?_
    refine JC.ret ?_
    refine Done.two (.inl rfl) rfl (RV.tmp (v := .int .i64 n_34) rfl) (RV.tmp (v := .int .i64 0) rfl) (List.Sublist.refl _) ?_
    exact ⟨x_46, m_47, n_34, 0, (by simp only [MS.takeSignal, e_1, e_5, e_11, e_15, h_21, e_22, e_26, e_30, e_36, e_44, if_true, if_false, Bool.false_eq_true, Bool.not_true, Bool.not_false]; (repeat (first | rw [if_pos (by omega)] | rw [if_neg (by omega)])); all_goals (first | rfl | simp only [if_true, if_false, Bool.false_eq_true, Bool.not_true, Bool.not_false, e_1, e_5, e_11, e_15, h_21, e_22, e_26, e_30, e_36, e_44])), (k_45.mono (by omega) (by omega)), (by first | omega | (simp only [List.length_append, List.length_cons, List.length_nil, List.length_take, List.length_drop]; omega)), (by first | omega | (simp only [List.length_append, List.length_cons, List.length_nil, List.length_take, List.length_drop]; omega)), rfl, rfl⟩

theorem M_takeSignal (x : MA) (m : MS) {S T : Nat} (hk : m.ok S T) (hS : S ≤ 50000000) (hT : T ≤ 50000000) (id : Int) (hid : -9223372036854775808 ≤ id ∧ id ≤ 9223372036854775807) :
    Ct Tryz.prog 192 [mv x m, .int .i64 id] (mr x m) (fun _ => True) (fun v A' => ∃ x' m' r0 r1, MS.takeSignal m id = (m', r0, r1) ∧ m'.ok (S + 1) (T + 5) ∧ (0 ≤ r0 ∧ r0 ≤ 999) ∧ (0 ≤ r1 ∧ r1 ≤ 9) ∧ v = .tuple #[mv x' m', .int .i64 r0, .int .i64 r1] ∧ A' = mr x' m') := by
  refine Ct.intro Tryz.func192 rfl Tryz.ntmps192 (Nat.le_of_ble_eq_true rfl) fun w0 hpre => ?_
  refine JC.seq ?_
  refine JC.region ?_
  refine JL.op rfl (JO.box (cs := [.slice x.a0 m.s.length x.c0, .slice x.a1 m.r.length x.c1, .slice x.a2 m.w.length x.c2]) rfl rfl) ?_
  rintro _ _ ⟨b_1, rfl, rfl⟩
  refine JL.op rfl (JO.alloc (z := .agg #[.slice none 0 0, .slice none 0 0, .slice none 0 0]) (cs := [.slice none 0 0, .slice none 0 0, .slice none 0 0]) Tryz.zeroValue32 rfl) ?_
  rintro _ _ ⟨b_2, rfl, rfl⟩
  refine JL.pure rfl (PO.assign (v := .int .i64 0) rfl) ?_
  refine JL.pure rfl (PO.assign (v := .int .i64 0) rfl) ?_
  refine JL.nil ?_
  refine JQ.seq ?_
  refine JC.seq ?_
  refine JC.regionA [mb b_1 x m] 7 mixed (by simp) ?_
  refine JA.take 0 rfl (by kernel_rfl) (NP.th NP.body) (by kernel_rfl) (by kernel_rfl) (by kernel_rfl) rfl (LO.loadK 0 (vs := [.slice x.a0 m.s.length x.c0, .slice x.a1 m.r.length x.c1, .slice x.a2 m.w.length x.c2]) rfl rfl Tryz.isAgg32 Tryz.sizeOf32 rfl rfl) ?_
  refine JA.takeP 1 rfl (by kernel_rfl) (NP.th NP.body) (by kernel_rfl) (by kernel_rfl) rfl (PO.move (v := .int .i64 id) rfl) ?_
  refine JA.one (i := 2) (by kernel_rfl) ?_
  refine JX.op rfl rfl (JO.call [] Tryz.call270 rfl (N_l10Key id [47, 104] (by omega) (show List.length ([47, 104] : Str) ≤ 2 by decide) (by omega)) rfl (fun _ _ => trivial)) ?_
  rintro _ _ ⟨_, ⟨u_9, e_7, f_10, rfl, rfl⟩, rfl⟩
  refine ⟨(by simp), ?_⟩
  refine JA.one (i := 3) (by kernel_rfl) ?_
  refine JX.op rfl rfl (JO.call [2, 2, 2] Tryz.call228 rfl (N_sNumAt x m hk (by omega) (by omega) u_9) rfl (fun _ _ => trivial)) ?_
  rintro _ _ ⟨_, ⟨x_19, m_20, n_21, e_17, k_18, f_22, rfl, rfl⟩, rfl⟩
  refine ⟨(by simp), ?_⟩
  refine JA.takeP 4 rfl (by kernel_rfl) (NP.th NP.body) (by kernel_rfl) (by kernel_rfl) rfl (PO.move (v := .tuple #[mv x_19 m_20, .int .i64 n_21]) rfl) ?_
  refine JA.takeP 5 rfl (by kernel_rfl) (NP.th NP.body) (by kernel_rfl) (by kernel_rfl) rfl (PO.extract (v := mv x_19 m_20) rfl rfl) ?_
  refine JA.takeP 6 rfl (by kernel_rfl) (NP.th NP.body) (by kernel_rfl) (by kernel_rfl) rfl (PO.extract (v := .int .i64 n_21) rfl rfl) ?_
  refine JA.one (i := 7) (by kernel_rfl) ?_
  refine JX.late rfl rfl (by decide) (by kernel_rfl) (JO.store 4 (vs := [.slice x_19.a0 m_20.s.length x_19.c0, .slice x_19.a1 m_20.r.length x_19.c1, .slice x_19.a2 m_20.w.length x_19.c2]) (cs' := [.slice x_19.a0 m_20.s.length x_19.c0, .slice x_19.a1 m_20.r.length x_19.c1, .slice x_19.a2 m_20.w.length x_19.c2]) rfl rfl rfl rfl Tryz.sizeOf32 rfl rfl (Nat.le_of_ble_eq_true rfl) rfl) ?_
  rintro _ _ rfl
  refine JA.takeP 8 rfl (by kernel_rfl) (NP.th NP.body) (by kernel_rfl) (by kernel_rfl) rfl (PO.assign (v := .int .i64 n_21) rfl) ?_
  refine JA.done (by kernel_rfl) ?_
  refine JQ.seq ?_
  refine JC.seq ?_
  refine JC.regionA [mb b_1 x_19 m_20] 7 mixed (by simp) ?_
  refine JA.take 0 rfl (by kernel_rfl) (NP.th NP.body) (by kernel_rfl) (by kernel_rfl) (by kernel_rfl) rfl (LO.loadK 0 (vs := [.slice x_19.a0 m_20.s.length x_19.c0, .slice x_19.a1 m_20.r.length x_19.c1, .slice x_19.a2 m_20.w.length x_19.c2]) rfl rfl Tryz.isAgg32 Tryz.sizeOf32 rfl rfl) ?_
  refine JA.takeP 1 rfl (by kernel_rfl) (NP.th NP.body) (by kernel_rfl) (by kernel_rfl) rfl (PO.move (v := .int .i64 id) rfl) ?_
  refine JA.one (i := 2) (by kernel_rfl) ?_
  refine JX.op rfl rfl (JO.call [] Tryz.call270 rfl (N_l10Key id [47, 116] (by omega) (show List.length ([47, 116] : Str) ≤ 2 by decide) (by omega)) rfl (fun _ _ => trivial)) ?_
  rintro _ _ ⟨_, ⟨u_29, e_27, f_30, rfl, rfl⟩, rfl⟩
  refine ⟨(by simp), ?_⟩
  refine JA.one (i := 3) (by kernel_rfl) ?_
  refine JX.op rfl rfl (JO.call [0, 0, 0] Tryz.call228 rfl (N_sNumAt x_19 m_20 k_18 (by omega) (by omega) u_29) rfl (fun _ _ => trivial)) ?_
  rintro _ _ ⟨_, ⟨x_39, m_40, n_41, e_37, k_38, f_42, rfl, rfl⟩, rfl⟩
  refine ⟨(by simp), ?_⟩
  refine JA.takeP 4 rfl (by kernel_rfl) (NP.th NP.body) (by kernel_rfl) (by kernel_rfl) rfl (PO.move (v := .tuple #[mv x_39 m_40, .int .i64 n_41]) rfl) ?_
  refine JA.takeP 5 rfl (by kernel_rfl) (NP.th NP.body) (by kernel_rfl) (by kernel_rfl) rfl (PO.extract (v := mv x_39 m_40) rfl rfl) ?_
  refine JA.takeP 6 rfl (by kernel_rfl) (NP.th NP.body) (by kernel_rfl) (by kernel_rfl) rfl (PO.extract (v := .int .i64 n_41) rfl rfl) ?_
  refine JA.one (i := 7) (by kernel_rfl) ?_
  refine JX.late rfl rfl (by decide) (by kernel_rfl) (JO.store 4 (vs := [.slice x_39.a0 m_40.s.length x_39.c0, .slice x_39.a1 m_40.r.length x_39.c1, .slice x_39.a2 m_40.w.length x_39.c2]) (cs' := [.slice x_39.a0 m_40.s.length x_39.c0, .slice x_39.a1 m_40.r.length x_39.c1, .slice x_39.a2 m_40.w.length x_39.c2]) rfl rfl rfl rfl Tryz.sizeOf32 rfl rfl (Nat.le_of_ble_eq_true rfl) rfl) ?_
  rintro _ _ rfl
  refine JA.takeP 8 rfl (by kernel_rfl) (NP.th NP.body) (by kernel_rfl) (by kernel_rfl) rfl (PO.assign (v := .int .i64 n_41) rfl) ?_
  refine JA.done (by kernel_rfl) ?_
  refine JQ.seq ?_
  refine JC.seq ?_
  refine JC.seq ?_
  refine JC.region ?_
  refine JL.pure rfl (PO.move (v := .int .i64 n_21) rfl) ?_
  refine JL.pure rfl (PO.move (v := .int .i64 n_41) rfl) ?_
  refine JL.pure rfl (PO.eqlI rfl rfl) ?_
  refine JL.nil ?_
  refine JQ.seq ?_
  by_cases h_43 : n_21 = n_41
  · skip
    refine JC.condT (congrArg Value.bool (decide_eq_true h_43)) ?_
    refine JC.seq ?_
    refine JC.region ?_
    refine JL.ld rfl (LO.loadK 4 (vs := [.slice x_39.a0 m_40.s.length x_39.c0, .slice x_39.a1 m_40.r.length x_39.c1, .slice x_39.a2 m_40.w.length x_39.c2]) rfl rfl Tryz.isAgg32 Tryz.sizeOf32 rfl rfl) ?_
    refine JL.op rfl (JO.store 3 (vs := [.slice x_39.a0 m_40.s.length x_39.c0, .slice x_39.a1 m_40.r.length x_39.c1, .slice x_39.a2 m_40.w.length x_39.c2]) (cs' := [.slice x_39.a0 m_40.s.length x_39.c0, .slice x_39.a1 m_40.r.length x_39.c1, .slice x_39.a2 m_40.w.length x_39.c2]) rfl rfl rfl rfl Tryz.sizeOf32 rfl rfl (Nat.le_of_ble_eq_true rfl) rfl) ?_
    rintro _ _ rfl
    refine JL.pure rfl (PO.assign (v := .int .i64 0) rfl) ?_
    refine JL.pure rfl (PO.assign (v := .int .i64 5) rfl) ?_
    refine JL.nil ?_
    refine JQ.seq ?_
    refine JC.ret ?_
    refine JQ.thenRet ?_
    refine Done.three (.inl rfl) rfl (RV.cell1 (LO.loadK 3 (vs := [.slice x_39.a0 m_40.s.length x_39.c0, .slice x_39.a1 m_40.r.length x_39.c1, .slice x_39.a2 m_40.w.length x_39.c2]) rfl rfl Tryz.isAgg32 Tryz.sizeOf32 rfl rfl) ⟨_, rfl⟩) (RV.tmp (v := .int .i64 0) rfl) (RV.tmp (v := .int .i64 5) rfl) (List.sublist_append_left [rC x_39.a0 x_39.c0 m_40.s, rS x_39.a1 x_39.c1 m_40.r, rS x_39.a2 x_39.c2 m_40.w] [mb b_2 x_39 m_40, mb b_1 x_39 m_40]) ?_
    exact ⟨x_39, m_40, 0, 5, (by simp only [MS.takeSignal, e_7, e_17, e_27, e_37, h_43, if_true, if_false, Bool.false_eq_true, Bool.not_true, Bool.not_false]; (repeat (first | rw [if_pos (by omega)] | rw [if_neg (by omega)])); all_goals (first | rfl | simp only [if_true, if_false, Bool.false_eq_true, Bool.not_true, Bool.not_false, e_7, e_17, e_27, e_37, h_43])), (k_38.mono (by omega) (by omega)), (by first | omega | (simp only [List.length_append, List.length_cons, List.length_nil, List.length_take, List.length_drop]; omega)), (by first | omega | (simp only [List.length_append, List.length_cons, List.length_nil, List.length_take, List.length_drop]; omega)), rfl, rfl⟩
  · skip
    refine JC.condF (congrArg Value.bool (decide_eq_false h_43)) ?_
    refine JC.skip ?_
    refine JQ.seq ?_
    refine JC.seq ?_
    refine JC.regionA [mb b_1 x_39 m_40] 9 mixed (by simp) ?_
    refine JA.take 0 rfl (by kernel_rfl) (NP.th NP.body) (by kernel_rfl) (by kernel_rfl) (by kernel_rfl) rfl (LO.loadK 0 (vs := [.slice x_39.a0 m_40.s.length x_39.c0, .slice x_39.a1 m_40.r.length x_39.c1, .slice x_39.a2 m_40.w.length x_39.c2]) rfl rfl Tryz.isAgg32 Tryz.sizeOf32 rfl rfl) ?_
    refine JA.takeP 1 rfl (by kernel_rfl) (NP.th NP.body) (by kernel_rfl) (by kernel_rfl) rfl (PO.move (v := .int .i64 id) rfl) ?_
    refine JA.takeP 2 rfl (by kernel_rfl) (NP.th NP.body) (by kernel_rfl) (by kernel_rfl) rfl (PO.move (v := .int .i64 n_21) rfl) ?_
    refine JA.takeP 3 rfl (by kernel_rfl) (NP.th NP.body) (by kernel_rfl) (by kernel_rfl) rfl (PO.add (c := n_21 + 1) rfl rfl (wr (by omega))) ?_
    refine JA.one (i := 4) (by kernel_rfl) ?_
    refine JX.op rfl rfl (JO.call [] Tryz.call271 rfl (N_l10Signal id (n_21 + 1) (by omega) (by omega)) rfl (fun _ _ => trivial)) ?_
    rintro _ _ ⟨_, ⟨u_50, e_48, f_51, rfl, rfl⟩, rfl⟩
    refine ⟨(by simp), ?_⟩
    refine JA.one (i := 5) (by kernel_rfl) ?_
    refine JX.op rfl rfl (JO.call [0, 0, 0] Tryz.call228 rfl (N_sNumAt x_39 m_40 k_38 (by omega) (by omega) u_50) rfl (fun _ _ => trivial)) ?_
    rintro _ _ ⟨_, ⟨x_60, m_61, n_62, e_58, k_59, f_63, rfl, rfl⟩, rfl⟩
    refine ⟨(by simp), ?_⟩
    refine JA.takeP 6 rfl (by kernel_rfl) (NP.th NP.body) (by kernel_rfl) (by kernel_rfl) rfl (PO.move (v := .tuple #[mv x_60 m_61, .int .i64 n_62]) rfl) ?_
    refine JA.takeP 7 rfl (by kernel_rfl) (NP.th NP.body) (by kernel_rfl) (by kernel_rfl) rfl (PO.extract (v := mv x_60 m_61) rfl rfl) ?_
    refine JA.takeP 8 rfl (by kernel_rfl) (NP.th NP.body) (by kernel_rfl) (by kernel_rfl) rfl (PO.extract (v := .int .i64 n_62) rfl rfl) ?_
    refine JA.one (i := 9) (by kernel_rfl) ?_
    refine JX.late rfl rfl (by decide) (by kernel_rfl) (JO.store 4 (vs := [.slice x_60.a0 m_61.s.length x_60.c0, .slice x_60.a1 m_61.r.length x_60.c1, .slice x_60.a2 m_61.w.length x_60.c2]) (cs' := [.slice x_60.a0 m_61.s.length x_60.c0, .slice x_60.a1 m_61.r.length x_60.c1, .slice x_60.a2 m_61.w.length x_60.c2]) rfl rfl rfl rfl Tryz.sizeOf32 rfl rfl (Nat.le_of_ble_eq_true rfl) rfl) ?_
    rintro _ _ rfl
    refine JA.takeP 10 rfl (by kernel_rfl) (NP.th NP.body) (by kernel_rfl) (by kernel_rfl) rfl (PO.assign (v := .int .i64 n_62) rfl) ?_
    refine JA.done (by kernel_rfl) ?_
    refine JQ.seq ?_
    refine JC.seq ?_
    refine JC.regionA [mb b_1 x_60 m_61] 5 mixed (by simp) ?_
    refine JA.take 0 rfl (by kernel_rfl) (NP.th NP.body) (by kernel_rfl) (by kernel_rfl) (by kernel_rfl) rfl (LO.loadK 0 (vs := [.slice x_60.a0 m_61.s.length x_60.c0, .slice x_60.a1 m_61.r.length x_60.c1, .slice x_60.a2 m_61.w.length x_60.c2]) rfl rfl Tryz.isAgg32 Tryz.sizeOf32 rfl rfl) ?_
    refine JA.takeP 1 rfl (by kernel_rfl) (NP.th NP.body) (by kernel_rfl) (by kernel_rfl) rfl (PO.move (v := .int .i64 id) rfl) ?_
    refine JA.takeP 2 rfl (by kernel_rfl) (NP.th NP.body) (by kernel_rfl) (by kernel_rfl) rfl (PO.move (v := .int .i64 n_21) rfl) ?_
    refine JA.takeP 3 rfl (by kernel_rfl) (NP.th NP.body) (by kernel_rfl) (by kernel_rfl) rfl (PO.add (c := n_21 + 1) rfl rfl (wr (by omega))) ?_
    refine JA.one (i := 4) (by kernel_rfl) ?_
    refine JX.op rfl rfl (JO.call [] Tryz.call271 rfl (N_l10Signal id (n_21 + 1) (by omega) (by omega)) rfl (fun _ _ => trivial)) ?_
    rintro _ _ ⟨_, ⟨u_70, e_68, f_71, rfl, rfl⟩, rfl⟩
    have hqe_68 := e_48.symm.trans e_68
    subst hqe_68
    refine ⟨(by simp), ?_⟩
    refine JA.one (i := 5) (by kernel_rfl) ?_
    refine JX.late rfl rfl (by decide) (by kernel_rfl) (JO.call [0, 0, 0] Tryz.call232 rfl (N_sLayNil x_60 m_61 k_59 (by omega) (by omega) u_50 (by omega)) rfl (fun _ _ => trivial)) ?_
    rintro _ _ ⟨_, ⟨x_78, m_79, e_76, k_77, rfl, rfl⟩, rfl⟩
    refine JA.one (i := 6) (by kernel_rfl) ?_
    refine JX.last rfl rfl (by decide) (by kernel_rfl) (JO.store 4 (vs := [.slice x_78.a0 m_79.s.length x_78.c0, .slice x_78.a1 m_79.r.length x_78.c1, .slice x_78.a2 m_79.w.length x_78.c2]) (cs' := [.slice x_78.a0 m_79.s.length x_78.c0, .slice x_78.a1 m_79.r.length x_78.c1, .slice x_78.a2 m_79.w.length x_78.c2]) rfl rfl rfl rfl Tryz.sizeOf32 rfl rfl (Nat.le_of_ble_eq_true rfl) rfl) ?_
    rintro _ _ rfl
    refine JQ.seq ?_
    refine JC.seq ?_
    refine JC.regionA [mb b_1 x_78 m_79] 7 mixed (by simp) ?_
    refine JA.take 0 rfl (by kernel_rfl) (NP.th NP.body) (by kernel_rfl) (by kernel_rfl) (by kernel_rfl) rfl (LO.loadK 0 (vs := [.slice x_78.a0 m_79.s.length x_78.c0, .slice x_78.a1 m_79.r.length x_78.c1, .slice x_78.a2 m_79.w.length x_78.c2]) rfl rfl Tryz.isAgg32 Tryz.sizeOf32 rfl rfl) ?_
    refine JA.takeP 1 rfl (by kernel_rfl) (NP.th NP.body) (by kernel_rfl) (by kernel_rfl) rfl (PO.move (v := .int .i64 id) rfl) ?_
    refine JA.takeP 3 rfl (by kernel_rfl) (NP.th NP.body) (by kernel_rfl) (by kernel_rfl) rfl (PO.move (v := .int .i64 n_21) rfl) ?_
    refine JA.takeP 4 rfl (by kernel_rfl) (NP.th NP.body) (by kernel_rfl) (by kernel_rfl) rfl (PO.add (c := n_21 + 1) rfl rfl (wr (by omega))) ?_
    refine JA.takeP 6 rfl (by kernel_rfl) (NP.th NP.body) (by kernel_rfl) (by kernel_rfl) rfl (PO.move (v := .int .i64 n_62) rfl) ?_
    refine JA.one (i := 2) (by kernel_rfl) ?_
    refine JX.op rfl rfl (JO.call [] Tryz.call270 rfl (N_l10Key id [47, 104] (by omega) (show List.length ([47, 104] : Str) ≤ 2 by decide) (by omega)) rfl (fun _ _ => trivial)) ?_
    rintro _ _ ⟨_, ⟨u_98, e_96, f_99, rfl, rfl⟩, rfl⟩
    have hqe_96 := e_7.symm.trans e_96
    subst hqe_96
    refine ⟨(by simp), ?_⟩
    refine JA.one (i := 5) (by kernel_rfl) ?_
    refine JX.op rfl rfl (JO.call [0, 0, 0] Tryz.call233 rfl (N_sSetNum x_78 m_79 k_77 (by omega) (by omega) u_9 (n_21 + 1) (by omega) (by omega)) rfl (fun _ _ => trivial)) ?_
    rintro _ _ ⟨_, ⟨x_106, m_107, e_104, k_105, rfl, rfl⟩, rfl⟩
    refine ⟨(by simp), ?_⟩
    refine JA.one (i := 7) (by kernel_rfl) ?_
    refine JX.late rfl rfl (by decide) (by kernel_rfl) (JO.store 3 (vs := [.slice x_106.a0 m_107.s.length x_106.c0, .slice x_106.a1 m_107.r.length x_106.c1, .slice x_106.a2 m_107.w.length x_106.c2]) (cs' := [.slice x_106.a0 m_107.s.length x_106.c0, .slice x_106.a1 m_107.r.length x_106.c1, .slice x_106.a2 m_107.w.length x_106.c2]) rfl rfl rfl rfl Tryz.sizeOf32 rfl rfl (Nat.le_of_ble_eq_true rfl) rfl) ?_
    rintro _ _ rfl
    refine JA.takeP 8 rfl (by kernel_rfl) (NP.th NP.body) (by kernel_rfl) (by kernel_rfl) rfl (PO.assign (v := .int .i64 n_62) rfl) ?_
    refine JA.takeP 9 rfl (by kernel_rfl) (NP.th NP.body) (by kernel_rfl) (by kernel_rfl) rfl (PO.assign (v := .int .i64 0) rfl) ?_
    refine JA.done (by kernel_rfl) ?_
    refine JQ.seq ?_
    refine JC.ret ?_
    refine Done.three (.inl rfl) rfl (RV.cell1 (LO.loadK 3 (vs := [.slice x_106.a0 m_107.s.length x_106.c0, .slice x_106.a1 m_107.r.length x_106.c1, .slice x_106.a2 m_107.w.length x_106.c2]) rfl rfl Tryz.isAgg32 Tryz.sizeOf32 rfl rfl) ⟨_, rfl⟩) (RV.tmp (v := .int .i64 n_62) rfl) (RV.tmp (v := .int .i64 0) rfl) (List.sublist_append_left [rC x_106.a0 x_106.c0 m_107.s, rS x_106.a1 x_106.c1 m_107.r, rS x_106.a2 x_106.c2 m_107.w] [mb b_2 x_106 m_107, mb b_1 x_78 m_79]) ?_
    exact ⟨x_106, m_107, n_62, 0, (by simp only [MS.takeSignal, e_7, e_17, e_27, e_37, h_43, e_48, e_58, e_76, e_104, if_true, if_false, Bool.false_eq_true, Bool.not_true, Bool.not_false]; (repeat (first | rw [if_pos (by omega)] | rw [if_neg (by omega)])); all_goals (first | rfl | simp only [if_true, if_false, Bool.false_eq_true, Bool.not_true, Bool.not_false, e_7, e_17, e_27, e_37, h_43, e_48, e_58, e_76, e_104])), (k_105.mono (by omega) (by omega)), (by first | omega | (simp only [List.length_append, List.length_cons, List.length_nil, List.length_take, List.length_drop]; omega)), (by first | omega | (simp only [List.length_append, List.length_cons, List.length_nil, List.length_take, List.length_drop]; omega)), rfl, rfl⟩

end Go.Proofs.YtenfajgpdhgknaaGreatDoor
