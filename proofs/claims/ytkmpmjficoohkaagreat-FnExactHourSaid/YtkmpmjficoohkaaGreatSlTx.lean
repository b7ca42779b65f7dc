/-
  Bytes and texts; stores of one field; pieces of slices. No program in sight.
-/
import Derived.Test.YtkmpmjficoohkaaGreatSlTy
import Derived.Laws.IdiomStrings
set_option linter.unusedSimpArgs false
set_option linter.unusedVariables false
set_option linter.unnecessarySimpa false
namespace Go.Proofs.YtkmpmjficoohkaaGreat
open Go Go.RowKit

theorem wr8 {x c : Int} (h : x = c ∧ 0 ≤ x ∧ x ≤ 255) : IntKind.u8.wrap x = c := by
  have : IntKind.u8.wrap x = x % 256 := by simp [IntKind.wrap, IntKind.bits, IntKind.signed]
  omega
/-- A byte, as a cell. -/
abbrev encB (b : UInt8) : Value := .int .u8 (b.toNat : Int)
theorem encB_of (k : Nat) (h : k < 256) : encB (UInt8.ofNat k) = .int .u8 (k : Int) := by
  unfold encB
  rw [UInt8.toNat_ofNat_of_lt' h]
theorem oneB (l : Str) : ∀ u ∈ l.map encB, u.oneCell' = true := by
  intro u hu
  obtain ⟨c, _, rfl⟩ := List.mem_map.1 hu
  rfl

section
variable {P : Program} {ops : Array Oper} {Q : Exit → Act → World → Prop} {n : Nat} {w0 w : World} {D : List Nat} {L : List Res} {e : Env}
variable {d : Option Tmp} {ty : TypeId} {pos : String} {aft : Array Edge} {gd : Option (Nat × Bool)}

theorem PO.quoN {x y : Operand} {k : IntKind} {a b : Int} {c : Int} {t u : TypeId} (hx : rd n e x = .int k a) (hy : rd n e y = .int k b) (hb : b ≠ 0) (ha : 0 ≤ a) (hb0 : 0 ≤ b) (hc : k.wrap (a / b) = c) : PO P n e ⟨d, .binOp .quo t x y u, ty, pos, aft, gd⟩ (.int k c) :=
  PO.quo hx hy hb (by rw [Int.tdiv_eq_ediv_of_nonneg ha]; exact hc)
theorem PO.remN {x y : Operand} {k : IntKind} {a b c : Int} {t u : TypeId} (hx : rd n e x = .int k a) (hy : rd n e y = .int k b) (hb : b ≠ 0) (ha : 0 ≤ a) (hc : a % b = c) : PO P n e ⟨d, .binOp .rem t x y u, ty, pos, aft, gd⟩ (.int k c) :=
  PO.rem hx hy hb (by rw [Int.tmod_eq_emod_of_nonneg ha]; exact hc)

/-- string(b), where b is owned. -/
theorem LO.toStr (i : Nat) {x : Operand} {el el2 s u m c : Nat} {a : Option Addr} {cs : List Value} (bs : Str) (hL : L[i]? = some (.row (.slice a m c) el2 1 m cs)) (hs : P.underlying s = some (.slice el)) (he : P.underlying el = some (.int .u8)) (hd : P.underlying u = some .string)
    (hx : rd n e x = .slice a m c) (hc : cs = bs.map encB) : LO P n w0 D L e ⟨d, .convert s u x, ty, pos, aft, gd⟩ (str bs) := fun w hw => by
  subst hc
  have hrow := hw.get hL
  have hm : bs.length = m := by have := hrow.1; simpa using this
  subst hm
  simp only [execOp, hx]
  cases a with
  | none =>
    rcases hrow.2 with ⟨_, h0⟩ | ⟨g, cap, cur, hv, _⟩
    · have : bs = [] := by simpa using h0
      subst this
      simp [convert, run_underlying hs, run_underlying hd, run_underlying he, Conv.bytesToString, str]
      rfl
    · simp at hv
  | some g =>
    have h1 := run_convert_bytes_back (P := P) w s u el g c bs hs he hd (fun j hj => by
      obtain ⟨g', hg', hcell⟩ := row_cell hrow (o := j) (u := encB (bs[j])) (by simp [hj])
      simp only [Option.some.injEq] at hg'
      subst hg'
      rw [add_lit, Nat.zero_add]
      exact hcell)
    simp [h1, str]

end

theorem drop_at {α : Type} {l : List α} {i : Nat} {v : α} (h : l[i]? = some v) : l.drop i = v :: l.drop (i + 1) := by
  obtain ⟨h1, h2⟩ := List.getElem?_eq_some_iff.1 h
  rw [List.drop_eq_getElem_cons h1, h2]
theorem take_at {α : Type} {l : List α} {i : Nat} {v : α} (h : l[i]? = some v) : l.take (i + 1) = l.take i ++ [v] := by
  rw [List.take_add_one, h]; rfl
theorem set1 {s : List Cell} {i : Nat} {k : Str} (h : i < s.length) : (s.flatMap encC).take (i * 2) ++ [str k] ++ (s.flatMap encC).drop (i * 2 + 1) = (s.set i (k, (s.getD i c0).2)).flatMap encC := by
  rw [← setC h, drop_at (atC2 h)]
  simp [List.append_assoc]
theorem set2 {s : List Cell} {i : Nat} {k : Str} (h : i < s.length) : (s.flatMap encC).take (i * 2 + 1) ++ [str k] ++ (s.flatMap encC).drop (i * 2 + 1 + 1) = (s.set i ((s.getD i c0).1, k)).flatMap encC := by
  rw [← setC h, take_at (atC1 h)]
  simp [List.append_assoc]

/-- The text of a mark. -/
def mtAcc (k : Nat) (out : Str) : Str := if h : k = 0 then out else mtAcc (k / 10) (UInt8.ofNat (48 + k % 10) :: out)
termination_by k
decreasing_by omega
theorem mtAcc_step {k : Nat} {out : Str} (h : 0 < k) : mtAcc (k / 10) ([UInt8.ofNat (48 + k % 10)] ++ out) = mtAcc k out := by
  rw [mtAcc.eq_1 k, dif_neg (by omega)]
  rfl
theorem mtAcc_zero {k : Nat} {out : Str} (h : k = 0) : mtAcc k out = out := by
  subst h
  rw [mtAcc]; rfl
theorem mtAcc_len : ∀ (n k : Nat) (out : Str), k ≤ n → (mtAcc k out).length ≤ out.length + k := by
  intro n
  induction n with
  | zero => intro k out h; rw [mtAcc_zero (by omega)]; omega
  | succ n ih =>
    intro k out h
    rcases Nat.eq_zero_or_pos k with h0 | h0
    · rw [mtAcc_zero h0]; omega
    · rw [← mtAcc_step h0]
      have := ih (k / 10) ([UInt8.ofNat (48 + k % 10)] ++ out) (by omega)
      simp only [List.length_append, List.length_cons, List.length_nil] at this
      omega
def mt (k : Nat) : Str := 109 :: mtAcc k []
/-- What the marks make of a list, the first of them k. -/
def markS : List Str → Nat → List Str
  | [], _ => []
  | _ :: l, k => mt k :: markS l (k + 1)
def markC : List Cell → Nat → List Cell
  | [], _ => []
  | _ :: l, k => (mt k, mt (k + 1)) :: markC l (k + 2)
theorem markS_len : ∀ (l : List Str) (k : Nat), (markS l k).length = l.length
  | [], _ => rfl
  | _ :: l, k => by simp [markS, markS_len l]
theorem markC_len : ∀ (l : List Cell) (k : Nat), (markC l k).length = l.length
  | [], _ => rfl
  | _ :: l, k => by simp [markC, markC_len l]
theorem markS_at : ∀ (l : List Str) (k j : Nat), j < l.length → (markS l k).getD j [] = mt (k + j)
  | [], _, _, h => by simp at h
  | _ :: l, k, 0, _ => rfl
  | _ :: l, k, j + 1, h => by
    have := markS_at l (k + 1) j (by simpa using h)
    rw [markS, List.getD_cons_succ, this]; congr 1; omega
theorem markC_at : ∀ (l : List Cell) (k j : Nat), j < l.length → (markC l k).getD j c0 = (mt (k + 2 * j), mt (k + 2 * j + 1))
  | [], _, _, h => by simp at h
  | _ :: l, k, 0, _ => rfl
  | _ :: l, k, j + 1, h => by
    have := markC_at l (k + 2) j (by simpa using h)
    rw [markC, List.getD_cons_succ, this]
    congr 2 <;> omega
theorem set_mid {α : Type} {p r : List α} {x y : α} {j : Nat} (h : p.length = j) : (p ++ x :: r).set j y = p ++ [y] ++ r := by
  subst h
  rw [List.set_append_right _ _ (Nat.le_refl _), Nat.sub_self, List.set_cons_zero, List.append_assoc]
  rfl
theorem markS_step {l : List Str} {k j : Nat} (h : j < l.length) : ((markS l k).take j ++ l.drop j).set j (mt (k + j)) = (markS l k).take (j + 1) ++ l.drop (j + 1) := by
  have hl := markS_len l k
  have h1 : (markS l k)[j]? = some (mt (k + j)) := by rw [← markS_at l k j h]; exact getD_some (by omega)
  rw [take_at h1, List.drop_eq_getElem_cons h]
  have h2 : ((markS l k).take j).length = j := by rw [List.length_take]; omega
  exact set_mid h2
theorem markC_step {l : List Cell} {k j : Nat} (h : j < l.length) : ((markC l k).take j ++ l.drop j).set j (mt (k + 2 * j), mt (k + 2 * j + 1)) = (markC l k).take (j + 1) ++ l.drop (j + 1) := by
  have hl := markC_len l k
  have h1 : (markC l k)[j]? = some (mt (k + 2 * j), mt (k + 2 * j + 1)) := by rw [← markC_at l k j h]; exact getD_some (by omega)
  rw [take_at h1, List.drop_eq_getElem_cons h]
  have h2 : ((markC l k).take j).length = j := by rw [List.length_take]; omega
  exact set_mid h2
theorem mark_all {α : Type} {l m : List α} (h : m.length = l.length) {j : Nat} (hj : l.length ≤ j) : m.take j ++ l.drop j = m := by
  rw [List.take_of_length_le (by omega), List.drop_of_length_le hj, List.append_nil]
theorem mark_len {α : Type} {l m : List α} (h : m.length = l.length) {j : Nat} (hj : j ≤ l.length) : (m.take j ++ l.drop j).length = l.length := by
  simp; omega
end Go.Proofs.YtkmpmjficoohkaaGreat
