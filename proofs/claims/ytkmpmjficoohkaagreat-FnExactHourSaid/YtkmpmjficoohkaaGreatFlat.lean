/-
  Rows of structs whose fields are plain: calls, answers, steps. No program in sight.
-/
import Derived.Test.YtkmpmjficoohkaaGreatSlDel
import Derived.Test.YtkmpmjficoohkaaGreatSlIns
import Derived.Test.YtkmpmjficoohkaaGreatDatL0
set_option linter.unusedSimpArgs false
set_option linter.unusedVariables false
set_option linter.unnecessarySimpa false
namespace Go.Proofs.YtkmpmjficoohkaaGreat
open Go Go.RowKit
/-- A step: who, which call. -/
structure SP where
  proc : Int
  call : CL
def k0 : CL := ⟨0, [], [], 0, 0, []⟩
def a0_ : AN := ⟨0, 0, []⟩
def p0_ : SP := ⟨0, k0⟩
def encK (c : CL) : List Value := [.int .i64 c.kind, str c.name, str c.to_, .int .i64 c.a, .int .i64 c.b, str c.text]
def encA (a : AN) : List Value := [.int .i64 a.code, .int .i64 a.n, str a.text]
def encP (p : SP) : List Value := [.int .i64 p.proc, .int .i64 p.call.kind, str p.call.name, str p.call.to_, .int .i64 p.call.a, .int .i64 p.call.b, str p.call.text]
theorem encK_len (c : CL) : (encK c).length = 6 := rfl
theorem encA_len (a : AN) : (encA a).length = 3 := rfl
theorem encP_len (p : SP) : (encP p).length = 7 := rfl
section
variable {α : Type} {enc : α → List Value} {k : Nat}
theorem flat_one (h : ∀ x, ∀ u ∈ enc x, u.oneCell' = true) (l : List α) : ∀ u ∈ l.flatMap enc, u.oneCell' = true := fun u hu => by
  obtain ⟨c, _, hc⟩ := List.mem_flatMap.1 hu
  exact h c u hc
theorem flat_sub (hk : ∀ x, (enc x).length = k) {w : World} {a : Option Addr} {c : Nat} {s : List α} (h : Sees w (.slice a s.length c) k s.length (s.flatMap enc)) (lo hi : Nat) (h1 : lo ≤ hi) (h2 : hi ≤ s.length) :
    Sees w (.slice (subA k a c lo) (hi - lo) (c - lo)) k (hi - lo) (((s.drop lo).take (hi - lo)).flatMap enc) := by
  have := h.sub lo hi h1 h2
  rw [flat_dropN hk, flat_takeN hk] at this
  exact this
theorem flat_hi (hk : ∀ x, (enc x).length = k) {w : World} {a : Option Addr} {c : Nat} {s : List α} (h : Sees w (.slice a s.length c) k s.length (s.flatMap enc)) (hi : Nat) (h2 : hi ≤ s.length) : Sees w (.slice a hi c) k hi ((s.take hi).flatMap enc) := by
  have := h.hi hi h2
  rw [flat_takeN hk] at this
  exact this
theorem flat_make (x : α) (m : Nat) : (List.replicate m (enc x)).flatten = (List.replicate m x).flatMap enc := by
  induction m with
  | zero => rfl
  | succ m ih => rw [List.replicate_succ, List.flatten_cons, ih, List.replicate_succ, List.flatMap_cons]
theorem flat_part (hk : ∀ x, (enc x).length = k) (d : α) (xs : List α) (i f m : Nat) (hi : i < xs.length) (hf : f + m ≤ k) : ((xs.flatMap enc).drop (i * k + f)).take m = ((enc (xs.getD i d)).drop f).take m := by
  rw [← flat_take hk d xs i hi, ← List.drop_drop, List.drop_take, List.take_take, Nat.min_eq_left (by omega)]
theorem flat_set1 (hk : ∀ x, (enc x).length = k) (d : α) {s : List α} {i f : Nat} {v : Value} {y : α} (h : i < s.length) (hf : f < k) (hy : (enc (s.getD i d)).set f v = enc y) :
    (s.flatMap enc).take (i * k + f) ++ [v] ++ (s.flatMap enc).drop (i * k + f + 1) = (s.set i y).flatMap enc := by
  have hl := flat_length hk s
  have hx : (s.flatMap enc) = (s.flatMap enc).take (i * k) ++ enc (s.getD i d) ++ (s.flatMap enc).drop (i * k + k) := by
    have h1 := flat_take hk d s i h
    have h2 : (s.flatMap enc) = (s.flatMap enc).take (i * k) ++ (s.flatMap enc).drop (i * k) := (List.take_append_drop _ _).symm
    have h3 : (s.flatMap enc).drop (i * k) = ((s.flatMap enc).drop (i * k)).take k ++ ((s.flatMap enc).drop (i * k)).drop k := (List.take_append_drop _ _).symm
    rw [h1, List.drop_drop] at h3
    rw [List.append_assoc, ← h3]
    exact h2
  have hle : i * k + k ≤ s.length * k := by
    have : (i + 1) * k ≤ s.length * k := Nat.mul_le_mul_right k h
    rwa [Nat.succ_mul] at this
  have hlen : ((s.flatMap enc).take (i * k)).length = i * k := by rw [List.length_take, hl]; omega
  have hset : (s.flatMap enc).set (i * k + f) v = (s.set i y).flatMap enc := by
    rw [← flat_set hk s i y h, ← hy]
    conv => lhs; rw [hx]
    rw [List.append_assoc, List.set_append_right _ _ (by omega), hlen, show i * k + f - i * k = f by omega, List.set_append_left _ _ (by rw [hk]; exact hf), List.append_assoc]
  rw [← hset, List.set_eq_take_append_cons_drop, if_pos (by rw [hl]; omega)]
  simp
theorem flat_set1s (hk : ∀ x, (enc x).length = k) (d : α) {s : List α} {i f : Nat} {v : Value} {x y : α} (h : i < s.length) (hf : f < k) (hy : (enc x).set f v = enc y) :
    ((s.set i x).flatMap enc).take (i * k + f) ++ [v] ++ ((s.set i x).flatMap enc).drop (i * k + f + 1) = (s.set i y).flatMap enc := by
  have hx : (s.set i x).getD i d = x := by rw [List.getD_eq_getElem?_getD, List.getElem?_set_self h]; rfl
  have := flat_set1 hk d (s := s.set i x) (i := i) (f := f) (v := v) (y := y) (by rw [List.length_set]; exact h) hf (by rw [hx]; exact hy)
  rwa [List.set_set] at this
end
theorem oneK (l : List CL) : ∀ u ∈ l.flatMap encK, u.oneCell' = true := flat_one (fun c u hu => by
  simp only [encK, List.mem_cons, List.not_mem_nil, or_false] at hu
  rcases hu with rfl | rfl | rfl | rfl | rfl | rfl <;> rfl) l
theorem oneA (l : List AN) : ∀ u ∈ l.flatMap encA, u.oneCell' = true := flat_one (fun c u hu => by
  simp only [encA, List.mem_cons, List.not_mem_nil, or_false] at hu
  rcases hu with rfl | rfl | rfl <;> rfl) l
theorem oneP (l : List SP) : ∀ u ∈ l.flatMap encP, u.oneCell' = true := flat_one (fun c u hu => by
  simp only [encP, List.mem_cons, List.not_mem_nil, or_false] at hu
  rcases hu with rfl | rfl | rfl | rfl | rfl | rfl | rfl <;> rfl) l
theorem subK {w : World} {a : Option Addr} {c : Nat} {s : List CL} (h : Sees w (.slice a s.length c) 6 s.length (s.flatMap encK)) (lo hi : Nat) (h1 : lo ≤ hi) (h2 : hi ≤ s.length) : Sees w (.slice (subA 6 a c lo) (hi - lo) (c - lo)) 6 (hi - lo) (((s.drop lo).take (hi - lo)).flatMap encK) := flat_sub encK_len h lo hi h1 h2
theorem hiK {w : World} {a : Option Addr} {c : Nat} {s : List CL} (h : Sees w (.slice a s.length c) 6 s.length (s.flatMap encK)) (hi : Nat) (h2 : hi ≤ s.length) : Sees w (.slice a hi c) 6 hi ((s.take hi).flatMap encK) := flat_hi encK_len h hi h2
theorem subA' {w : World} {a : Option Addr} {c : Nat} {s : List AN} (h : Sees w (.slice a s.length c) 3 s.length (s.flatMap encA)) (lo hi : Nat) (h1 : lo ≤ hi) (h2 : hi ≤ s.length) : Sees w (.slice (subA 3 a c lo) (hi - lo) (c - lo)) 3 (hi - lo) (((s.drop lo).take (hi - lo)).flatMap encA) := flat_sub encA_len h lo hi h1 h2
theorem hiA {w : World} {a : Option Addr} {c : Nat} {s : List AN} (h : Sees w (.slice a s.length c) 3 s.length (s.flatMap encA)) (hi : Nat) (h2 : hi ≤ s.length) : Sees w (.slice a hi c) 3 hi ((s.take hi).flatMap encA) := flat_hi encA_len h hi h2
theorem subP {w : World} {a : Option Addr} {c : Nat} {s : List SP} (h : Sees w (.slice a s.length c) 7 s.length (s.flatMap encP)) (lo hi : Nat) (h1 : lo ≤ hi) (h2 : hi ≤ s.length) : Sees w (.slice (subA 7 a c lo) (hi - lo) (c - lo)) 7 (hi - lo) (((s.drop lo).take (hi - lo)).flatMap encP) := flat_sub encP_len h lo hi h1 h2
theorem hiP {w : World} {a : Option Addr} {c : Nat} {s : List SP} (h : Sees w (.slice a s.length c) 7 s.length (s.flatMap encP)) (hi : Nat) (h2 : hi ≤ s.length) : Sees w (.slice a hi c) 7 hi ((s.take hi).flatMap encP) := flat_hi encP_len h hi h2

/- measures, marks, equality -/
def szL {α : Type} (f : α → Int → Int) : List α → Int → Int
  | [], l => l
  | x :: s, l => if f x l < 0 then -1 else szL f s (f x l)
def szLS {α : Type} (f : α → Int → Int) (s : List α) (l : Int) : Int := if l - s.length < 0 then -1 else szL f s (l - s.length)
def szAnsF (a : AN) (l : Int) : Int := if l - (a.text.length : Int) < 0 then -1 else l - (a.text.length : Int)
def szStepF (p : SP) (l : Int) : Int := if szCallF p.call l < 0 then -1 else szCallF p.call l
theorem szL_step {α : Type} {f : α → Int → Int} {s : List α} {j : Nat} (d : α) (h : j < s.length) (l : Int) : szL f (s.drop j) l = if f (s.getD j d) l < 0 then -1 else szL f (s.drop (j + 1)) (f (s.getD j d) l) := by
  rw [drop_at (getD_some (d := d) h), szL]
theorem szCallF_le (c : CL) (l : Int) (h : 0 ≤ l) : szCallF c l ≤ l ∧ -1 ≤ szCallF c l := by
  unfold szCallF
  split
  · omega
  · split
    · omega
    · split <;> omega
theorem szAnsF_le (a : AN) (l : Int) (h : 0 ≤ l) : szAnsF a l ≤ l ∧ -1 ≤ szAnsF a l := by
  unfold szAnsF
  split <;> omega
theorem szStepF_le (p : SP) (l : Int) (h : 0 ≤ l) : szStepF p l ≤ l ∧ -1 ≤ szStepF p l := by
  have := szCallF_le p.call l h
  unfold szStepF
  split <;> omega
theorem szL_le {α : Type} {f : α → Int → Int} (hf : ∀ x l, 0 ≤ l → f x l ≤ l ∧ -1 ≤ f x l) : ∀ (s : List α) (l : Int), 0 ≤ l → szL f s l ≤ l ∧ -1 ≤ szL f s l
  | [], l, h => by simp only [szL]; omega
  | x :: s, l, h => by
    have h1 := hf x l h
    unfold szL
    split
    · omega
    · have := szL_le hf s (f x l) (by omega)
      omega
theorem szLS_le {α : Type} {f : α → Int → Int} (hf : ∀ x l, 0 ≤ l → f x l ≤ l ∧ -1 ≤ f x l) (s : List α) (l : Int) (h : 0 ≤ l) : szLS f s l ≤ l ∧ -1 ≤ szLS f s l := by
  unfold szLS
  split
  · omega
  · have := szL_le hf s (l - s.length) (by omega)
    omega
theorem szL_mem {α : Type} {f : α → Int → Int} (hf : ∀ x l, 0 ≤ l → f x l ≤ l ∧ -1 ≤ f x l) : ∀ (s : List α) (l : Int), ¬ szL f s l < 0 → 0 ≤ l → ∀ c ∈ s, ∃ q, 0 ≤ q ∧ q ≤ l ∧ ¬ f c q < 0
  | [], l, _, _, c, hc => by simp at hc
  | d :: s, l, h, h0, c, hc => by
    unfold szL at h
    split at h
    · omega
    · rename_i hd
      have h1 := hf d l h0
      simp only [List.mem_cons] at hc
      rcases hc with rfl | hc
      · exact ⟨l, h0, by omega, hd⟩
      · obtain ⟨q, h2, h3, h4⟩ := szL_mem hf s _ h (by omega) c hc
        exact ⟨q, h2, by omega, h4⟩
theorem szLS_mem {α : Type} {f : α → Int → Int} (hf : ∀ x l, 0 ≤ l → f x l ≤ l ∧ -1 ≤ f x l) {s : List α} {l : Int} (h : ¬ szLS f s l < 0) : (s.length : Int) ≤ l ∧ ∀ c ∈ s, ∃ q, 0 ≤ q ∧ q ≤ l ∧ ¬ f c q < 0 := by
  unfold szLS at h
  split at h
  · omega
  · refine ⟨by omega, fun c hc => ?_⟩
    obtain ⟨q, h1, h2, h3⟩ := szL_mem hf s _ h (by omega) c hc
    exact ⟨q, h1, by omega, h3⟩
def markG {α : Type} (mk : Nat → α) (m : Nat) : List α → Nat → List α
  | [], _ => []
  | _ :: l, k => mk k :: markG mk m l (k + m)
theorem markG_len {α : Type} (mk : Nat → α) (m : Nat) : ∀ (l : List α) (k : Nat), (markG mk m l k).length = l.length
  | [], _ => rfl
  | _ :: l, k => by simp [markG, markG_len mk m l]
theorem markG_get {α : Type} (mk : Nat → α) (m : Nat) (d : α) : ∀ (l : List α) (k j : Nat), j < l.length → (markG mk m l k).getD j d = mk (k + m * j)
  | [], k, j, h => by simp at h
  | x :: l, k, 0, _ => by simp [markG]
  | x :: l, k, j + 1, h => by
    have := markG_get mk m d l (k + m) j (by simpa using h)
    simp only [markG, List.getD_cons_succ, this]
    congr 1
    rw [Nat.mul_add]
    omega
theorem markG_step {α : Type} (mk : Nat → α) (m : Nat) {l : List α} {k j : Nat} (h : j < l.length) : ((markG mk m l k).take j ++ l.drop j).set j (mk (k + m * j)) = (markG mk m l k).take (j + 1) ++ l.drop (j + 1) := by
  have hj : ((markG mk m l k).take j).length = j := by rw [List.length_take, markG_len]; omega
  rw [List.set_append_right _ _ (by omega), hj, Nat.sub_self, List.drop_eq_getElem_cons h, List.set_cons_zero, List.take_add_one]
  have hg : (markG mk m l k)[j]? = some (mk (k + m * j)) := by
    rw [← markG_get mk m (mk 0) l k j h]
    exact getD_some (by rw [markG_len]; exact h)
  rw [hg]
  simp
theorem markG_lenj {α : Type} (mk : Nat → α) (m : Nat) {l : List α} {k j : Nat} (h : j ≤ l.length) : ((markG mk m l k).take j ++ l.drop j).length = l.length := by
  rw [List.length_append, List.length_take, markG_len, List.length_drop]; omega
def mkK (k : Nat) : CL := ⟨((k : Nat) : Int), mt (k + 1), mt (k + 2), ((k + 3 : Nat) : Int), ((k + 4 : Nat) : Int), mt (k + 5)⟩
def mkA (k : Nat) : AN := ⟨((k : Nat) : Int), ((k + 1 : Nat) : Int), mt (k + 2)⟩
def mkP (k : Nat) : SP := ⟨((k : Nat) : Int), mkK (k + 1)⟩
instance decCL : DecidableEq CL := fun a b => decidable_of_iff (a.kind = b.kind ∧ a.name = b.name ∧ a.to_ = b.to_ ∧ a.a = b.a ∧ a.b = b.b ∧ a.text = b.text) (by cases a; cases b; simp)
instance decAN : DecidableEq AN := fun a b => decidable_of_iff (a.code = b.code ∧ a.n = b.n ∧ a.text = b.text) (by cases a; cases b; simp)
instance decSP : DecidableEq SP := fun a b => decidable_of_iff (a.proc = b.proc ∧ a.call = b.call) (by cases a; cases b; simp)
end Go.Proofs.YtkmpmjficoohkaaGreat
