/-
  What the calls on a file's bytes compute. No program in sight.
-/
import Derived.Test.YtenfajgpdhgknaaGreatDoorDatH
set_option linter.unusedSimpArgs false
set_option linter.unusedVariables false
set_option linter.unnecessarySimpa false
namespace Go.Proofs.YtenfajgpdhgknaaGreatDoor
open Go Go.RowKit

/-- What stands between two places. -/
def piece (b : Str) (lo hi : Nat) : Str := (b.drop lo).take (hi - lo)
theorem piece_nil {b : Str} {lo hi : Nat} (h : hi ≤ lo) : piece b lo hi = [] := by
  unfold piece
  rw [show hi - lo = 0 by omega]
  simp
theorem piece_len (b : Str) (lo hi : Nat) : (piece b lo hi).length ≤ hi - lo := by
  unfold piece
  rw [List.length_take]
  omega
theorem piece_yes {b : Str} {lo i e : Nat} (h1 : lo ≤ i) (h2 : i < e) (h3 : i < b.length) : piece b lo (min e (i + 1)) = piece b lo (min e i) ++ [b.getD i 0] := by
  unfold piece
  rw [show min e (i + 1) - lo = (i - lo) + 1 by omega, show min e i - lo = i - lo by omega]
  have : (b.drop lo)[i - lo]? = some (b.getD i 0) := by
    rw [List.getElem?_drop, show lo + (i - lo) = i by omega]
    exact getD_some h3
  rw [List.take_add_one, this]
  rfl
theorem piece_no {b : Str} {lo i e : Nat} (h : i < lo ∨ e ≤ i) : piece b lo (min e (i + 1)) = piece b lo (min e i) := by
  rcases h with h | h
  · rw [piece_nil (by omega), piece_nil (by omega)]
  · rw [show min e (i + 1) = min e i by omega]
/-- A byte put at a place, with noughts between. -/
def setPad (b : Str) (i : Nat) (c : UInt8) : Str := (b ++ List.replicate (i + 1 - b.length) 0).set i c
theorem setPad_len (b : Str) (i : Nat) (c : UInt8) : (setPad b i c).length = max b.length (i + 1) := by
  unfold setPad
  simp only [List.length_set, List.length_append, List.length_replicate]
  omega
theorem pad_step {c : Str} {n : Nat} (h : c.length < n + 1) : (c ++ [0]) ++ List.replicate (n + 1 - (c.length + 1)) (0 : UInt8) = c ++ List.replicate (n + 1 - c.length) 0 := by
  rw [show n + 1 - c.length = (n + 1 - (c.length + 1)) + 1 by omega, List.replicate_succ]
  simp
def overTo (text : Str) (a f : Nat) (b : Str) : Nat → Str
  | 0 => b
  | k + 1 => setPad (overTo text a f b k) (a - f + k) (text.getD (f + (a - f + k) - a) 0)
theorem overTo_step {text b c d : Str} {a f j : Nat} (h : max a f ≤ j) (hc : c = overTo text a f b (j - max a f)) (hd : d = c ++ List.replicate (j - f + 1 - c.length) 0) :
    d.set (j - f) (text.getD (j - a) 0) = overTo text a f b (j + 1 - max a f) := by
  rw [show j + 1 - max a f = (j - max a f) + 1 by omega, overTo, ← hc, show a - f + (j - max a f) = j - f by omega, show f + (j - f) - a = j - a by omega, setPad, ← hd]
namespace MS
def blockKey (id : Int) (p : Nat) : Str := keyNum (keyNum ([105, 47] : Str) id ([47, 98, 47] : Str)) (p : Int) []
def readL (id : Int) (a e : Nat) : Nat → Nat → MS → Str → MS × Str
  | 0, _, m, out => (m, out)
  | k + 1, p, m, out => if p * 8 < e then
      match m.block id (p : Int) with
      | (m, b) => readL id a e k (p + 1) m (out ++ piece b (a - p * 8) (min (min (e - p * 8) 8) b.length))
    else (m, out)
theorem readL_stop {id : Int} {a e k p : Nat} {m : MS} {out : Str} (h : ¬ p * 8 < e) : readL id a e k p m out = (m, out) := by
  cases k with
  | zero => rfl
  | succ k => rw [readL, if_neg h]
def readFile (m : MS) (id at_ n : Int) : MS × Str :=
  match m.sizeOf id with
  | (m, size) => if at_ < 0 ∨ n < 1 ∨ size ≤ at_ then (m, []) else
    readL id at_.toNat (at_ + min n (size - at_)).toNat (130 - at_.toNat / 8) (at_.toNat / 8) m []
def writeL (id : Int) (text : Str) (a e : Nat) : Nat → Nat → MS → MS
  | 0, _, m => m
  | k + 1, p, m => if p * 8 < e then
      match m.block id (p : Int) with
      | (m, b) => writeL id text a e k (p + 1) (m.lay (blockKey id p) (hexS (overTo text a (p * 8) b (min e (p * 8 + 8) - max a (p * 8)))))
    else m
theorem writeL_stop {id : Int} {text : Str} {a e k p : Nat} {m : MS} (h : ¬ p * 8 < e) : writeL id text a e k p m = m := by
  cases k with
  | zero => rfl
  | succ k => rw [writeL, if_neg h]
def writeFile (m : MS) (id at_ : Int) (text : Str) : MS × Int :=
  match m.sizeOf id with
  | (m, size) => if at_ < 0 ∨ size < at_ ∨ (text.length : Int) = 0 then (m, 4) else
    if 64 < at_ + (text.length : Int) then (m, 3) else
    if size < at_ + (text.length : Int) then ((writeL id text at_.toNat (at_.toNat + text.length) (130 - at_.toNat / 8) (at_.toNat / 8) m).setNum (keyNum ([105, 47] : Str) id ([47, 115] : Str)) ((at_.toNat + text.length : Nat) : Int), 0)
    else (writeL id text at_.toNat (at_.toNat + text.length) (130 - at_.toNat / 8) (at_.toNat / 8) m, 0)
def cutL (id : Int) (z : Nat) : Nat → Nat → MS → MS
  | 0, _, m => m
  | k + 1, p, m => if p * 8 < z then cutL id z k (p + 1) (m.lay (blockKey id p) []) else m
theorem cutL_stop {id : Int} {z k p : Nat} {m : MS} (h : ¬ p * 8 < z) : cutL id z k p m = m := by
  cases k with
  | zero => rfl
  | succ k => rw [cutL, if_neg h]
def cutFile (m : MS) (id n : Int) : MS × Int :=
  match m.sizeOf id with
  | (m, size) => if n < 0 ∨ size < n then (m, 4) else
    if 0 < n.toNat % 8 then
      match m.block id ((n.toNat / 8 : Nat) : Int) with
      | (m, b) => ((cutL id size.toNat (130 - (n.toNat / 8 + 1)) (n.toNat / 8 + 1) (m.lay (blockKey id (n.toNat / 8)) (hexS (b.take (min (n.toNat % 8) b.length))))).setNum (keyNum ([105, 47] : Str) id ([47, 115] : Str)) n, 0)
    else ((cutL id size.toNat (130 - n.toNat / 8) (n.toNat / 8) m).setNum (keyNum ([105, 47] : Str) id ([47, 115] : Str)) n, 0)
end MS
end Go.Proofs.YtenfajgpdhgknaaGreatDoor
