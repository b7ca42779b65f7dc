/-
  Rows of strings, cells and ints; stores behind a slice. No program in sight.
-/
import Derived.Test.YtkmpmjficoohkaaGreatSlRow
import Derived.Test.YtkmpmjficoohkaaGreatSlAny
set_option linter.unusedSimpArgs false
set_option linter.unusedVariables false
set_option linter.unnecessarySimpa false
namespace Go.Proofs.YtkmpmjficoohkaaGreat
open Go Go.RowKit

def encC (c : Cell) : List Value := [str c.1, str c.2]

theorem flat_take {α : Type} {enc : α → List Value} {k : Nat} (hk : ∀ x, (enc x).length = k) (d : α) : ∀ (xs : List α) (i : Nat), i < xs.length → ((xs.flatMap enc).drop (i * k)).take k = enc (xs.getD i d)
  | [], i, h => by simp at h
  | x :: xs, 0, _ => by
    simp only [Nat.zero_mul, List.drop_zero, List.flatMap_cons, List.getD_cons_zero]
    rw [List.take_append_of_le_length (by rw [hk]; exact Nat.le_refl _), List.take_of_length_le (by rw [hk]; exact Nat.le_refl _)]
  | x :: xs, i + 1, h => by
    have hd : ((x :: xs).flatMap enc).drop ((i + 1) * k) = (xs.flatMap enc).drop (i * k) := by
      rw [List.flatMap_cons, Nat.succ_mul, Nat.add_comm, ← List.drop_drop]
      congr 1
      rw [List.drop_append_of_le_length (by rw [hk]; exact Nat.le_refl _), List.drop_of_length_le (by rw [hk]; exact Nat.le_refl _)]
      rfl
    rw [hd, List.getD_cons_succ]
    exact flat_take hk d xs i (by simpa using h)

theorem flat_at {α : Type} {enc : α → List Value} {k : Nat} (hk : ∀ x, (enc x).length = k) (d : α) (xs : List α) (i j : Nat) (hi : i < xs.length) (hj : j < k) : (xs.flatMap enc)[i * k + j]? = (enc (xs.getD i d))[j]? := by
  have := congrArg (fun l => l[j]?) (flat_take hk d xs i hi)
  simp only [List.getElem?_take, List.getElem?_drop, hj, if_true] at this
  exact this

theorem flat_length {α : Type} {enc : α → List Value} {k : Nat} (hk : ∀ x, (enc x).length = k) (xs : List α) : (xs.flatMap enc).length = xs.length * k := by
  induction xs with
  | nil => simp
  | cons x xs ih => rw [List.flatMap_cons, List.length_append, hk, ih, List.length_cons, Nat.succ_mul, Nat.add_comm]

theorem flat_set {α : Type} {enc : α → List Value} {k : Nat} (hk : ∀ x, (enc x).length = k) : ∀ (xs : List α) (i : Nat) (y : α), i < xs.length → (xs.flatMap enc).take (i * k) ++ enc y ++ (xs.flatMap enc).drop (i * k + k) = (xs.set i y).flatMap enc
  | [], i, y, h => by simp at h
  | x :: xs, 0, y, _ => by
    simp only [Nat.zero_mul, List.take_zero, List.nil_append, Nat.zero_add, List.flatMap_cons, List.set_cons_zero]
    rw [List.drop_append_of_le_length (by rw [hk]; exact Nat.le_refl _), List.drop_of_length_le (by rw [hk]; exact Nat.le_refl _)]
    rfl
  | x :: xs, i + 1, y, h => by
    have ih := flat_set hk xs i y (by simpa using h)
    simp only [List.set_cons_succ, List.flatMap_cons]
    rw [← ih]
    have e1 : (i + 1) * k = k + i * k := by rw [Nat.succ_mul, Nat.add_comm]
    rw [e1, List.take_append, List.drop_append, hk]
    have e2 : (enc x).take (k + i * k) = enc x := List.take_of_length_le (by rw [hk]; omega)
    have e3 : (enc x).drop (k + i * k + k) = [] := List.drop_of_length_le (by rw [hk]; omega)
    rw [e2, e3, show k + i * k - k = i * k by omega, show k + i * k + k - k = i * k + k by omega]
    simp [List.append_assoc]

theorem encC_len (c : Cell) : (encC c).length = 2 := rfl
/- short names -/
@[reducible] def iv (n : Int) : Value := .int .i64 n
@[reducible] def nv (n : Nat) : Value := .int .i64 ((n : Nat) : Int)
@[reducible] def pv (p : Nat) : Value := .pointer (some ⟨p, 0, none⟩)
@[reducible] def zC : List Value := [.slice none 0 0, .slice none 0 0, .slice none 0 0]
@[reducible] def zM : Value := .agg #[.slice none 0 0, .slice none 0 0, .slice none 0 0]
theorem lb {a b : Nat} (h : Nat.ble a b = true) : a ≤ b := Nat.le_of_ble_eq_true h
theorem sL {α : Type} (a b : List α) : a.Sublist (a ++ b) := List.sublist_append_left a b
theorem cB {a b : Bool} (h : a = b) : Value.bool a = Value.bool b := congrArg Value.bool h
theorem cN {a b : Bool} (h : a = b) : (!a) = (!b) := congrArg Bool.not h
theorem dF {p : Prop} [d : Decidable p] (h : ¬ p) : decide p = false := decide_eq_false h
theorem dT {p : Prop} [d : Decidable p] (h : p) : decide p = true := decide_eq_true h
theorem nM {v : Value} : ∀ b, v.ownBlock = some b → b ∉ ([] : List Nat) := fun _ _ => List.not_mem_nil
theorem tS (k : Nat) (L : List Res) : (L.take k).Sublist L := List.take_sublist k L
theorem SB : (∀ (α : Type) [h : Decidable True] (a b : α), (if True then a else b) = a) ∧ (∀ (α : Type) [h : Decidable False] (a b : α), (if False then a else b) = b) ∧ ((false = true) = False) ∧ ((!true) = false) ∧ ((!false) = true) := ⟨fun _ _ _ _ => by simp, fun _ _ _ _ => by simp, by simp, rfl, rfl⟩
theorem LE : (∀ (α : Type) (a b : List α), (a ++ b).length = a.length + b.length) ∧ (∀ (α : Type) (x : α) (a : List α), (x :: a).length = a.length + 1) ∧ (∀ (α : Type), ([] : List α).length = 0) ∧ (∀ (α : Type) (i : Nat) (a : List α), (a.take i).length = min i a.length) ∧ (∀ (α : Type) (i : Nat) (a : List α), (a.drop i).length = a.length - i) :=
  ⟨fun _ _ _ => List.length_append, fun _ _ _ => List.length_cons, fun _ => List.length_nil, fun _ _ _ => List.length_take, fun _ _ _ => List.length_drop⟩
theorem atC {s : List Cell} {i : Nat} (h : i < s.length) : ((s.flatMap encC).drop (i * 2)).take 2 = [str (s.getD i c0).1, str (s.getD i c0).2] := flat_take encC_len c0 s i h
theorem atC1 {s : List Cell} {i : Nat} (h : i < s.length) : (s.flatMap encC)[i * 2]? = some (str (s.getD i c0).1) := flat_at encC_len c0 s i 0 h (by decide)
theorem atC2 {s : List Cell} {i : Nat} (h : i < s.length) : (s.flatMap encC)[i * 2 + 1]? = some (str (s.getD i c0).2) := flat_at encC_len c0 s i 1 h (by decide)
theorem atS {l : List Str} {i : Nat} (h : i < l.length) : (l.map str)[i * 1]? = some (str (l.getD i [])) := by simp [h]
theorem atI {l : List Int} {i : Nat} (h : i < l.length) : (l.map (Value.int .i64))[i * 1]? = some (.int .i64 (l.getD i 0)) := by simp [h]
theorem lenC (s : List Cell) : (s.flatMap encC).length = s.length * 2 := flat_length encC_len s
theorem setC {s : List Cell} {i : Nat} {c : Cell} (h : i < s.length) : (s.flatMap encC).take (i * 2) ++ [str c.1, str c.2] ++ (s.flatMap encC).drop (i * 2 + 2) = (s.set i c).flatMap encC := flat_set encC_len s i c h
theorem oneC (s : List Cell) : ∀ u ∈ s.flatMap encC, u.oneCell' = true := by
  intro u hu
  obtain ⟨c, _, hc⟩ := List.mem_flatMap.1 hu
  simp only [encC, List.mem_cons, List.not_mem_nil, or_false] at hc
  rcases hc with rfl | rfl <;> rfl
theorem oneS (l : List Str) : ∀ u ∈ l.map str, u.oneCell' = true := by
  intro u hu
  obtain ⟨c, _, rfl⟩ := List.mem_map.1 hu
  rfl
theorem oneI (l : List Int) : ∀ u ∈ l.map (Value.int .i64), u.oneCell' = true := by
  intro u hu
  obtain ⟨c, _, rfl⟩ := List.mem_map.1 hu
  rfl

section
variable {P : Program} {ops : Array Oper} {Q : Exit → Act → World → Prop} {n : Nat} {w0 w : World} {D : List Nat} {L : List Res} {e : Env}
variable {d : Option Tmp} {ty : TypeId} {pos : String} {aft : Array Edge} {gd : Option (Nat × Bool)}

/-- A store behind a slice whose row is owned. -/
theorem JO.storeR (i : Nat) {x y : Operand} {t el k k0 m c o : Nat} {a : Option Addr} {cs cs' vs : List Value} {v : Value} (hL : L[i]? = some (.row (.slice a m c) el k0 m cs)) (hx : rd n e x = elp a o) (hy : rd n e y = v) (hv : v.cells.toList = vs)
    (hs : ∀ w, (sizeOf t).run P w = .ok k w) (hk : vs.length = k) (h1 : vs.all (·.oneCell') = true) (h0 : 0 < k) (hfit : o + k ≤ cs.length) (hc : cs.take o ++ vs ++ cs.drop (o + k) = cs') :
    JO P n w0 D L e ⟨d, .store t x y, ty, pos, aft, gd⟩ (fun _ L' => L' = L.set i (.row (.slice a m c) el k0 m cs')) := JO.ofRunU fun w hw => by
  have hrow := hw.get hL
  have hcl := hrow.1
  rcases hrow.2 with ⟨hvv, hm0⟩ | ⟨g, cap, cur, hvv, hg0, hg, h2, h3, h4, h5⟩
  · subst hm0
    simp only [Nat.zero_mul] at hcl
    omega
  · simp only [Value.slice.injEq] at hvv
    obtain ⟨rfl, _, rfl⟩ := hvv
    have hcur : cs.length ≤ cur.size := by rw [← h5, List.length_take, Array.length_toList]; exact Nat.min_le_right _ _
    have hst := run_storeCells_R P g o el vs 0 cur w hg (by omega) (fun u hu => (List.all_eq_true.1 h1) u hu)
    simp only [Nat.add_zero, hk] at hst
    refine ⟨_, w.setRow g (cur.toList.take o ++ vs ++ cur.toList.drop (o + k)).toArray, ?_, rfl, ?_⟩
    · have hcs : v.cells.size = k := by rw [← hk, ← hv, Array.length_toList]
      simp [execOp, hx, elp, hy, Instr.storeAt, Instr.sureAddr, storeVar, hs, hcs, hv, hst]
    · refine hw.turn1 hL rfl rfl rfl (by simp) (fun q _ hq => setRow_other w g q _ (by simpa [Res.ids, Value.ownBlock] using hq)) ?_ (by simp [Res.ids, Value.ownBlock]) (fun q hq => .inl (by simpa [Res.ids, Value.ownBlock] using hq))
      have hl' : cs'.length = m * k0 := by
        rw [← hc, List.length_append, List.length_append, List.length_take, List.length_drop, hk]
        omega
      refine ⟨hl', .inr ⟨g, c, _, rfl, hg0, hg.setRow (by simp only [List.size_toArray, List.length_append, List.length_take, List.length_drop, Array.length_toList]; omega), h2, h3, ?_, ?_⟩⟩
      · simp only [List.size_toArray, List.length_append, List.length_take, List.length_drop, Array.length_toList, hk]
        omega
      · show (cur.toList.take o ++ vs ++ cur.toList.drop (o + k)).take (m * k0) = cs'
        have e1 : cs.take o = cur.toList.take o := by rw [← h5, List.take_take, Nat.min_eq_left (by omega)]
        have e2 : cs.drop (o + k) = (cur.toList.drop (o + k)).take (m * k0 - (o + k)) := by rw [← h5, List.drop_take]
        rw [← hc, e1, e2, List.take_append]
        have e3 : (cur.toList.take o ++ vs).length = o + k := by
          rw [List.length_append, List.length_take, Array.length_toList, hk]; omega
        rw [e3, List.take_of_length_le (by rw [e3]; omega)]

/-- What is picked, as a list. -/
def pickA : List Nat → List Res → List Res
  | [], _ => []
  | i :: is, L => L.getD i (.rows []) :: pickA is (L.eraseIdx i)
def okP : List Nat → List Res → Bool
  | [], _ => true
  | i :: is, L => Nat.blt i L.length && okP is (L.eraseIdx i)
theorem pickA_perm : ∀ (is : List Nat) (L : List Res), okP is L = true → ∃ F, L.Perm (pickA is L ++ F)
  | [], L, _ => ⟨L, List.Perm.refl _⟩
  | i :: is, L, h => by
    unfold okP at h
    simp only [Bool.and_eq_true, Nat.blt_eq] at h
    obtain ⟨F, hF⟩ := pickA_perm is (L.eraseIdx i) h.2
    refine ⟨F, ?_⟩
    have hg : L[i]? = some (L.getD i (.rows [])) := by
      rw [List.getD_eq_getElem?_getD, List.getElem?_eq_getElem h.1]
      rfl
    unfold pickA
    exact (perm_erase i _ hg).trans (List.Perm.cons _ hF)
theorem JQ.pk (is : List Nat) {x : Exit} (h : JQ Q x n w0 D (pickA is L) e) (hok : okP is L = true := by kernel_rfl) : JQ Q x n w0 D L e := fun w hw => by
  obtain ⟨F, hF⟩ := pickA_perm is L hok
  exact h w ((hw.perm hF.symm).sub (List.sublist_append_left _ _))
theorem JQ.pick (is : List Nat) {x : Exit} {A F : List Res} (hp : pick is L = some (A, F)) (h : JQ Q x n w0 D A e) : JQ Q x n w0 D L e := fun w hw => h w ((hw.perm (pick_perm is hp).symm).sub (List.sublist_append_left _ _))
theorem JC.pick (is : List Nat) {c : Code} {A F : List Res} (hp : pick is L = some (A, F)) (h : JC P Q n w0 D A c e) : JC P Q n w0 D L c e := fun w hw => h w ((hw.perm (pick_perm is hp).symm).sub (List.sublist_append_left _ _))

theorem St.seeOut_ {v : Value} {k m : Nat} {cs : List Value} (hw : St w0 D L w) (hs : Sees w0 v k m cs) (hD : ∀ b, v.ownBlock = some b → b ∉ D) : Sees w v k m cs := by
  obtain ⟨hl, h⟩ := hs
  refine ⟨hl, ?_⟩
  rcases h with h | ⟨b, o, cap, hv, h1, h2, h3, h4⟩
  · exact .inl h
  · exact .inr ⟨b, o, cap, hv, h1, h2, Nat.lt_of_lt_of_le h3 hw.size, fun j u hj => cell_of_keep hw.qw rfl (hD b (by subst hv; simp [Value.ownBlock])) (h4 j u hj)⟩

end

theorem replC (m : Nat) : (List.replicate m [str [], str []]).flatten = (List.replicate m c0).flatMap encC := by
  induction m with
  | zero => rfl
  | succ m ih => rw [List.replicate_succ, List.replicate_succ, List.flatten_cons, List.flatMap_cons, ih]; rfl
theorem replS (m : Nat) : (List.replicate m [str []]).flatten = (List.replicate m []).map str := by
  induction m with
  | zero => rfl
  | succ m ih => rw [List.replicate_succ, List.replicate_succ, List.flatten_cons, List.map_cons, ih]; rfl
theorem fill_len {α : Type} {s : List α} {j : Nat} (d : α) (h : j ≤ s.length) : (s.take j ++ List.replicate (s.length - j) d).length = s.length := by
  simp; omega
theorem fill_step {α : Type} {s : List α} {j : Nat} (d : α) (h : j < s.length) : (s.take j ++ List.replicate (s.length - j) d).set j (s.getD j d) = s.take (j + 1) ++ List.replicate (s.length - (j + 1)) d := by
  apply List.ext_getElem?
  intro i
  rw [List.getElem?_set]
  have hl : (s.take j ++ List.replicate (s.length - j) d).length = s.length := fill_len d (Nat.le_of_lt h)
  by_cases hij : j = i
  · subst hij
    rw [if_pos rfl, hl, if_pos h, List.getElem?_append_left (by simp; omega), List.getElem?_take, if_pos (by omega), List.getD_eq_getElem?_getD, List.getElem?_eq_getElem h]
    rfl
  · rw [if_neg hij]
    simp only [List.getElem?_append, List.length_take, List.getElem?_take, List.getElem?_replicate]
    split <;> split <;> (try split) <;> (try split) <;> first | rfl | omega | simp_all
theorem fill_done {α : Type} {s : List α} (d : α) {j : Nat} (h : s.length ≤ j) : s.take j ++ List.replicate (s.length - j) d = s := by
  rw [List.take_of_length_le h, Nat.sub_eq_zero_of_le h]; simp
theorem setS {l : List Str} {i : Nat} {c : Str} (h : i < l.length) : (l.map str).take (i * 1) ++ [str c] ++ (l.map str).drop (i * 1 + 1) = (l.set i c).map str := by
  have e : ∀ q : List Str, q.flatMap (fun s => [str s]) = q.map str := fun q => by
    induction q with
    | nil => rfl
    | cons x q ih => rw [List.flatMap_cons, ih]; rfl
  have := flat_set (enc := fun s => [str s]) (k := 1) (fun _ => rfl) l i c h
  rw [e, e] at this
  exact this
end Go.Proofs.YtkmpmjficoohkaaGreat
