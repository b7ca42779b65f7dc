/-
Texts of the walk, joined: what each one proves stands at its theorems.
-/
import Derived.Test.YthlfmbbaomdciaaGreatDoorB5DatRc
set_option linter.unusedSimpArgs false
set_option linter.unusedVariables false
set_option linter.unnecessarySimpa false
namespace Go.Proofs.YthlfmbbaomdciaaGreatDoor
open Go Go.RowKit
theorem replC (m : Nat) : (List.replicate m [str [], str []]).flatten = (List.replicate m c0).flatMap encC := by
 induction m with
 | zero => rfl
 | succ m ih => rw [List.replicate_succ, List.replicate_succ, List.flatten_cons, List.flatMap_cons, ih]; rfl
theorem replS (m : Nat) : (List.replicate m [str []]).flatten = (List.replicate m []).map str := by
 induction m with
 | zero => rfl
 | succ m ih => rw [List.replicate_succ, List.replicate_succ, List.flatten_cons, List.map_cons, ih]; rfl
theorem fill_len {α : Type} {s : List α} {j : Nat} (d : α) (h : j ≤ s.length) : (s.take j ++ List.replicate (s.length - j) d).length = s.length := by
 simp; omega
theorem fill_step {α : Type} {s : List α} {j : Nat} (d : α) (h : j < s.length) : (s.take j ++ List.replicate (s.length - j) d).set j (s.getD j d) = s.take (j + 1) ++ List.replicate (s.length - (j + 1)) d := by
 apply List.ext_getElem?
 intro i
 rw [List.getElem?_set]
 have hl : (s.take j ++ List.replicate (s.length - j) d).length = s.length := fill_len d (Nat.le_of_lt h)
 by_cases hij : j = i
 · subst hij
   rw [if_pos rfl, hl, if_pos h, List.getElem?_append_left (by simp; omega), List.getElem?_take, if_pos (by omega), List.getD_eq_getElem?_getD, List.getElem?_eq_getElem h]
   rfl
 · rw [if_neg hij]
   simp only [List.getElem?_append, List.length_take, List.getElem?_take, List.getElem?_replicate]
   split <;> split <;> (try split) <;> (try split) <;> first | rfl | omega | simp_all
theorem fill_done {α : Type} {s : List α} (d : α) {j : Nat} (h : s.length ≤ j) : s.take j ++ List.replicate (s.length - j) d = s := by
 rw [List.take_of_length_le h, Nat.sub_eq_zero_of_le h]; simp
theorem setS {l : List Str} {i : Nat} {c : Str} (h : i < l.length) : (l.map str).take (i * 1) ++ [str c] ++ (l.map str).drop (i * 1 + 1) = (l.set i c).map str := by
 have e : ∀ q : List Str, q.flatMap (fun s => [str s]) = q.map str := fun q => by
   induction q with
   | nil => rfl
   | cons x q ih => rw [List.flatMap_cons, ih]; rfl
 have := flat_set (enc := fun s => [str s]) (k := 1) (fun _ => rfl) l i c h
 rw [e, e] at this
 exact this
theorem set1 {s : List Cell} {i : Nat} {k : Str} (h : i < s.length) : (s.flatMap encC).take (i * 2) ++ [str k] ++ (s.flatMap encC).drop (i * 2 + 1) = (s.set i (k, (s.getD i c0).2)).flatMap encC := by
 rw [← setC h, drop_at (atC2 h)]
 simp [List.append_assoc]
theorem set2 {s : List Cell} {i : Nat} {k : Str} (h : i < s.length) : (s.flatMap encC).take (i * 2 + 1) ++ [str k] ++ (s.flatMap encC).drop (i * 2 + 1 + 1) = (s.set i ((s.getD i c0).1, k)).flatMap encC := by
 rw [← setC h, take_at (atC1 h)]
 simp [List.append_assoc]

def mt (k : Nat) : Str := 109 :: mtAcc k []
/-- What the marks make of a list, the first of them k. -/
def markS : List Str → Nat → List Str
 | [], _ => []
 | _ :: l, k => mt k :: markS l (k + 1)
def markC : List Cell → Nat → List Cell
 | [], _ => []
 | _ :: l, k => (mt k, mt (k + 1)) :: markC l (k + 2)
theorem markS_len : ∀ (l : List Str) (k : Nat), (markS l k).length = l.length
 | [], _ => rfl
 | _ :: l, k => by simp [markS, markS_len l]
theorem markC_len : ∀ (l : List Cell) (k : Nat), (markC l k).length = l.length
 | [], _ => rfl
 | _ :: l, k => by simp [markC, markC_len l]
theorem markS_at : ∀ (l : List Str) (k j : Nat), j < l.length → (markS l k).getD j [] = mt (k + j)
 | [], _, _, h => by simp at h
 | _ :: l, k, 0, _ => rfl
 | _ :: l, k, j + 1, h => by
   have := markS_at l (k + 1) j (by simpa using h)
   rw [markS, List.getD_cons_succ, this]; congr 1; omega
theorem markC_at : ∀ (l : List Cell) (k j : Nat), j < l.length → (markC l k).getD j c0 = (mt (k + 2 * j), mt (k + 2 * j + 1))
 | [], _, _, h => by simp at h
 | _ :: l, k, 0, _ => rfl
 | _ :: l, k, j + 1, h => by
   have := markC_at l (k + 2) j (by simpa using h)
   rw [markC, List.getD_cons_succ, this]
   congr 2 <;> omega
theorem set_mid {α : Type} {p r : List α} {x y : α} {j : Nat} (h : p.length = j) : (p ++ x :: r).set j y = p ++ [y] ++ r := by
 subst h
 rw [List.set_append_right _ _ (Nat.le_refl _), Nat.sub_self, List.set_cons_zero, List.append_assoc]
 rfl
theorem markS_step {l : List Str} {k j : Nat} (h : j < l.length) : ((markS l k).take j ++ l.drop j).set j (mt (k + j)) = (markS l k).take (j + 1) ++ l.drop (j + 1) := by
 have hl := markS_len l k
 have h1 : (markS l k)[j]? = some (mt (k + j)) := by rw [← markS_at l k j h]; exact getD_some (by omega)
 rw [take_at h1, List.drop_eq_getElem_cons h]
 have h2 : ((markS l k).take j).length = j := by rw [List.length_take]; omega
 exact set_mid h2
theorem markC_step {l : List Cell} {k j : Nat} (h : j < l.length) : ((markC l k).take j ++ l.drop j).set j (mt (k + 2 * j), mt (k + 2 * j + 1)) = (markC l k).take (j + 1) ++ l.drop (j + 1) := by
 have hl := markC_len l k
 have h1 : (markC l k)[j]? = some (mt (k + 2 * j), mt (k + 2 * j + 1)) := by rw [← markC_at l k j h]; exact getD_some (by omega)
 rw [take_at h1, List.drop_eq_getElem_cons h]
 have h2 : ((markC l k).take j).length = j := by rw [List.length_take]; omega
 exact set_mid h2
theorem mark_all {α : Type} {l m : List α} (h : m.length = l.length) {j : Nat} (hj : l.length ≤ j) : m.take j ++ l.drop j = m := by
 rw [List.take_of_length_le (by omega), List.drop_of_length_le hj, List.append_nil]
theorem mark_len {α : Type} {l m : List α} (h : m.length = l.length) {j : Nat} (hj : j ≤ l.length) : (m.take j ++ l.drop j).length = l.length := by
 simp; omega
end Go.Proofs.YthlfmbbaomdciaaGreatDoor
set_option maxHeartbeats 4000000
set_option maxRecDepth 4000
namespace Go.Proofs.YthlfmbbaomdciaaGreatDoor
open Go Go.RowKit
attribute [local irreducible] JL JC JQ JO LO PO JA JX Ct
def szCell (k v : Str) (l : Int) : Int := if l - k.length < 0 then -1 else if l - k.length - v.length < 0 then -1 else l - k.length - v.length

theorem C_szCell (k v : Str) (l : Int) (h0 : 0 ≤ l) (h1 : l ≤ 1048576) (hk : k.length ≤ 9223372036854775807) (hv : v.length ≤ 9223372036854775807) :
   Ct Tryz.prog 165 [.agg #[str k, str v], .int .i64 l] [] (fun _ => True) (fun r A' => r = .int .i64 (szCell k v l) ∧ A' = []) := by
 refine Ct.intro Tryz.func165 rfl Tryz.ntmps165 (lb rfl) fun w0 hpre => ?_
 refine go ?_
 refine jM [str k, str v] fun b_1 => ?_
 refine go ?_
 refine kF rfl (jg (c := l - (k.length : Int)) rfl rfl (wr (by omega))) ?_
 refine go ?_
 by_cases h_2 : (l - (k.length : Int)) < 0
 · refine go ?_
   refine jE (.inl rfl) rfl (jC (v := iv (-1)) rfl) (List.nil_sublist _) ?_
   refine ⟨?_, rfl⟩
   simp only [szCell]
   congr 1
   first | rw [if_pos (by omega)] | (rw [if_neg (by omega)]; first | rw [if_pos (by omega)] | rw [if_neg (by omega)])
 refine go ?_
 refine kF rfl (jg (c := (l - (k.length : Int)) - (v.length : Int)) rfl rfl (wr (by omega))) ?_
 refine go ?_
 by_cases h_3 : ((l - (k.length : Int)) - (v.length : Int)) < 0
 · refine go ?_
   refine jE (.inl rfl) rfl (jC (v := iv (-1)) rfl) (List.nil_sublist _) ?_
   refine ⟨?_, rfl⟩
   simp only [szCell]
   congr 1
   first | rw [if_pos (by omega)] | (rw [if_neg (by omega)]; first | rw [if_pos (by omega)] | rw [if_neg (by omega)])
 refine go ?_
 refine jE (.inl rfl) rfl (jC (v := iv ((l - (k.length : Int)) - (v.length : Int))) rfl) (List.nil_sublist _) ?_
 refine ⟨?_, rfl⟩
 simp only [szCell]
 congr 1
 first | rw [if_pos (by omega)] | (rw [if_neg (by omega)]; first | rw [if_pos (by omega)] | rw [if_neg (by omega)])

theorem C_toCell (k v : Str) :
   Ct Tryz.prog 170 [.agg #[str k, str v]] [] (fun _ => True) (fun r A' => r = .agg #[str k, str v] ∧ A' = []) := by
 refine Ct.intro Tryz.func170 rfl Tryz.ntmps170 (lb rfl) fun w0 hpre => ?_
 refine go ?_
 refine jM [str k, str v] fun b_1 => ?_
 refine jG [str [], str []] fun b_2 => ?_
 refine go ?_
 refine jG [str [], str []] fun b_3 => ?_
 refine go ?_
 refine jD 0 [str k, str []] ?_
 refine go ?_
 refine jD 0 [str k, str v] ?_
 refine go ?_
 refine jD 1 [str k, str v] ?_
 refine go ?_
 exact jJ [] ⟨rfl, rfl⟩

theorem C_eqCell (k v k2 v2 : Str) :
   Ct Tryz.prog 179 [.agg #[str k, str v], .agg #[str k2, str v2]] [] (fun _ => True) (fun r A' => r = .bool (decide (k = k2) && decide (v = v2)) ∧ A' = []) := by
 refine Ct.intro Tryz.func179 rfl Tryz.ntmps179 (lb rfl) fun w0 hpre => ?_
 refine go ?_
 refine jM [str k, str v] fun b_1 => ?_
 refine jM [str k2, str v2] fun b_2 => ?_
 refine go ?_
 by_cases h_3 : k = k2
 · refine go ?_
   by_cases h_4 : v = v2
   · refine go ?_
     refine jE (.inl rfl) rfl (jC (v := .bool true) rfl) (List.nil_sublist _) ?_
     refine ⟨?_, rfl⟩
     simp [*]
   refine go ?_
   refine jE (.inl rfl) rfl (jC (v := .bool false) rfl) (List.nil_sublist _) ?_
   refine ⟨?_, rfl⟩
   simp [*]
 refine go ?_
 refine jE (.inl rfl) rfl (jC (v := .bool false) rfl) (List.nil_sublist _) ?_
 refine ⟨?_, rfl⟩
 simp [*]
def szCells : List Cell → Int → Int
 | [], l => l
 | c :: s, l => if szCell c.1 c.2 l < 0 then -1 else szCells s (szCell c.1 c.2 l)
def szCellS (s : List Cell) (l : Int) : Int := if l - s.length < 0 then -1 else szCells s (l - s.length)
def szStrs : List Str → Int → Int
 | [], l => l
 | c :: s, l => if l - c.length < 0 then -1 else szStrs s (l - c.length)
def szStringS (s : List Str) (l : Int) : Int := if l - s.length < 0 then -1 else szStrs s (l - s.length)

theorem szCell_le (k v : Str) (l : Int) (h : 0 ≤ l) : szCell k v l ≤ l ∧ -1 ≤ szCell k v l := by unfold szCell; split <;> (try split) <;> omega
theorem szCells_step {s : List Cell} {j : Nat} (h : j < s.length) (l : Int) : szCells (s.drop j) l = if szCell (s.getD j c0).1 (s.getD j c0).2 l < 0 then -1 else szCells (s.drop (j + 1)) (szCell (s.getD j c0).1 (s.getD j c0).2 l) := by
 rw [List.drop_eq_getElem_cons h, szCells]
 simp [h]
theorem szStrs_step {s : List Str} {j : Nat} (h : j < s.length) (l : Int) : szStrs (s.drop j) l = if l - (s.getD j []).length < 0 then -1 else szStrs (s.drop (j + 1)) (l - (s.getD j []).length) := by
 rw [List.drop_eq_getElem_cons h, szStrs]
 simp [h]
theorem cell_eq {a b : Cell} (h : (decide (a.1 = b.1) && decide (a.2 = b.2)) = true) : a = b := by
 simp only [Bool.and_eq_true, decide_eq_true_eq] at h
 exact Prod.ext h.1 h.2
theorem cell_ne {a b : Cell} (h : (decide (a.1 = b.1) && decide (a.2 = b.2)) = false) : a ≠ b := by
 intro e; subst e; simp at h

theorem C_eqCellS (a b : Option Addr) (c c' : Nat) (s t : List Cell) (hn : s.length ≤ 9223372036854775807) :
   Ct Tryz.prog 91 [.slice a s.length c, .slice b t.length c'] [] (fun w => Sees w (.slice a s.length c) 2 s.length (s.flatMap encC) ∧ Sees w (.slice b t.length c') 2 t.length (t.flatMap encC)) (fun r A' => r = .bool (decide (s = t)) ∧ A' = []) := by
 refine Ct.intro Tryz.func91 rfl Tryz.ntmps91 (lb rfl) fun w0 hpre => ?_
 have hs_a : Sees w0 _ _ _ _ := hpre.1
 have hs_b : Sees w0 _ _ _ _ := hpre.2
 refine go ?_
 by_cases h_1 : ((s.length : Nat) : Int) = ((t.length : Nat) : Int)
 · have hlen := h_1
   refine go ?_
   refine jL (fun k_ e_ L_ => ∃ j : Nat, (j ≤ s.length) ∧ (s.take j = t.take j) ∧ (s.length = t.length) ∧ EL e_ [(0, .slice a s.length c), (1, .slice b t.length c'), (5, nv j)] ∧ L_ = [] ∧ k_ = s.length - j) _ ⟨0, by omega, rfl, by omega, EL.go, rfl, rfl⟩ ?_
   rintro _ _ _ ⟨j, hj, hE, hln, ⟨_, rfl⟩, rfl, rfl⟩
   refine go ?_
   by_cases h_2 : ((j : Nat) : Int) < ((s.length : Nat) : Int)
   · have hlt : j < s.length := by omega
     refine go ?_
     refine jH [] 1000 ?_
     refine go ?_
     obtain ⟨hr_3, hr_3b, -⟩ := sees_some hs_a (by omega)
     refine go ?_
     refine JA.take 3 rfl (by kernel_rfl) (NP.th (NP.bl (NP.th (NP.th (NP.bl (NP.th NP.body)))))) (by kernel_rfl) (by kernel_rfl) (by kernel_rfl) rfl (jj (vs := [str ((s.getD j c0).1), str ((s.getD j c0).2)]) hs_a nM rfl Tryz.isAgg130 kP (atC (by omega)) rfl (by decide)) ?_
     refine go ?_
     obtain ⟨hr_4, hr_4b, -⟩ := sees_some hs_b (by omega)
     refine go ?_
     refine JA.take 7 rfl (by kernel_rfl) (NP.th (NP.bl (NP.th (NP.th (NP.bl (NP.th NP.body)))))) (by kernel_rfl) (by kernel_rfl) (by kernel_rfl) rfl (jj (vs := [str ((t.getD j c0).1), str ((t.getD j c0).2)]) hs_b nM rfl Tryz.isAgg130 kP (atC (by omega)) rfl (by decide)) ?_
     refine jB (i := 8) ?_
     refine jI [] (C_eqCell ((s.getD j c0).1) ((s.getD j c0).2) ((t.getD j c0).1) ((t.getD j c0).2)) ?_
     rintro _ _ ⟨rfl, rfl⟩
     refine go ?_
     rcases Bool.eq_false_or_eq_true (decide (((s.getD j c0).1) = ((t.getD j c0).1)) && decide (((s.getD j c0).2) = ((t.getD j c0).2))) with h_5 | h_5
     · have h_5d := h_5
       simp only [Bool.and_eq_true, Bool.and_eq_false_iff, decide_eq_true_eq, decide_eq_false_iff_not] at h_5d
       have heq := cell_eq h_5
       refine go ?_
       refine jV (s.length - (j + 1)) (by omega) ⟨j + 1, by omega, take_succ_eq c0 hE hlt hln heq, hln, EL.go, rfl, rfl⟩
     have h_5d := h_5
     simp only [Bool.and_eq_true, Bool.and_eq_false_iff, decide_eq_true_eq, decide_eq_false_iff_not] at h_5d
     have hne := cell_ne h_5
     refine go ?_
     refine jE (.inl rfl) rfl (jC (v := .bool false) rfl) (List.nil_sublist _) ?_
     refine ⟨?_, rfl⟩
     rw [dF (fun h => hne (by rw [h]))]
   refine go ?_
   refine jE (.inl rfl) rfl (jC (v := .bool true) rfl) (List.nil_sublist _) ?_
   refine ⟨?_, rfl⟩
   rw [dT (take_all_eq hE (by omega) (by omega))]
 have hlen := h_1
 refine go ?_
 refine jE (.inl rfl) rfl (jC (v := .bool false) rfl) (List.nil_sublist _) ?_
 refine ⟨?_, rfl⟩
 rw [dF (fun h => by rw [h] at hlen; omega)]

theorem C_eqStringS (a b : Option Addr) (c c' : Nat) (s t : List Str) (hn : s.length ≤ 9223372036854775807) :
   Ct Tryz.prog 274 [.slice a s.length c, .slice b t.length c'] [] (fun w => Sees w (.slice a s.length c) 1 s.length (s.map str) ∧ Sees w (.slice b t.length c') 1 t.length (t.map str)) (fun r A' => r = .bool (decide (s = t)) ∧ A' = []) := by
 refine Ct.intro Tryz.func274 rfl Tryz.ntmps274 (lb rfl) fun w0 hpre => ?_
 have hs_a : Sees w0 _ _ _ _ := hpre.1
 have hs_b : Sees w0 _ _ _ _ := hpre.2
 refine go ?_
 by_cases h_1 : ((s.length : Nat) : Int) = ((t.length : Nat) : Int)
 · have hlen := h_1
   refine go ?_
   refine jL (fun k_ e_ L_ => ∃ j : Nat, (j ≤ s.length) ∧ (s.take j = t.take j) ∧ (s.length = t.length) ∧ EL e_ [(0, .slice a s.length c), (1, .slice b t.length c'), (5, nv j)] ∧ L_ = [] ∧ k_ = s.length - j) _ ⟨0, by omega, rfl, by omega, EL.go, rfl, rfl⟩ ?_
   rintro _ _ _ ⟨j, hj, hE, hln, ⟨_, rfl⟩, rfl, rfl⟩
   refine go ?_
   by_cases h_2 : ((j : Nat) : Int) < ((s.length : Nat) : Int)
   · have hlt : j < s.length := by omega
     refine go ?_
     refine jH [] 8 ?_
     refine go ?_
     obtain ⟨hr_3, hr_3b, -⟩ := sees_some hs_a (by omega)
     refine go ?_
     refine JA.take 3 rfl (by kernel_rfl) (NP.th (NP.bl (NP.th (NP.th (NP.bl (NP.th NP.body)))))) (by kernel_rfl) (by kernel_rfl) (by kernel_rfl) rfl (jY (v := str (s.getD j [])) hs_a nM rfl kJ (atS (by omega))) ?_
     refine go ?_
     obtain ⟨hr_4, hr_4b, -⟩ := sees_some hs_b (by omega)
     refine go ?_
     refine JA.take 7 rfl (by kernel_rfl) (NP.th (NP.bl (NP.th (NP.th (NP.bl (NP.th NP.body)))))) (by kernel_rfl) (by kernel_rfl) (by kernel_rfl) rfl (jY (v := str (t.getD j [])) hs_b nM rfl kJ (atS (by omega))) ?_
     refine go ?_
     by_cases h_5 : (s.getD j []) = (t.getD j [])
     · have heq := h_5
       refine go ?_
       refine jV (s.length - (j + 1)) (by omega) ⟨j + 1, by omega, take_succ_eq [] hE hlt hln heq, hln, EL.go, rfl, rfl⟩
     have hne := h_5
     refine go ?_
     refine jE (.inl rfl) rfl (jC (v := .bool false) rfl) (List.nil_sublist _) ?_
     refine ⟨?_, rfl⟩
     rw [dF (fun h => hne (by rw [h]))]
   refine go ?_
   refine jE (.inl rfl) rfl (jC (v := .bool true) rfl) (List.nil_sublist _) ?_
   refine ⟨?_, rfl⟩
   rw [dT (take_all_eq hE (by omega) (by omega))]
 have hlen := h_1
 refine go ?_
 refine jE (.inl rfl) rfl (jC (v := .bool false) rfl) (List.nil_sublist _) ?_
 refine ⟨?_, rfl⟩
 rw [dF (fun h => by rw [h] at hlen; omega)]
theorem szStrs_le : ∀ (s : List Str) (l : Int), 0 ≤ l → szStrs s l ≤ l ∧ -1 ≤ szStrs s l
 | [], l, h => by simp only [szStrs]; omega
 | c :: s, l, h => by
   unfold szStrs
   split
   · omega
   · have := szStrs_le s (l - c.length) (by omega); omega
theorem szStringS_le (s : List Str) (l : Int) (h : 0 ≤ l) : szStringS s l ≤ l ∧ -1 ≤ szStringS s l := by
 unfold szStringS
 split
 · omega
 · have := szStrs_le s (l - s.length) (by omega); omega
theorem szCells_le : ∀ (s : List Cell) (l : Int), 0 ≤ l → szCells s l ≤ l ∧ -1 ≤ szCells s l
 | [], l, h => by simp only [szCells]; omega
 | c :: s, l, h => by
   have hc := szCell_le c.1 c.2 l h
   unfold szCells
   split
   · omega
   · have := szCells_le s (szCell c.1 c.2 l) (by omega); omega
theorem szCellS_le (s : List Cell) (l : Int) (h : 0 ≤ l) : szCellS s l ≤ l ∧ -1 ≤ szCellS s l := by
 unfold szCellS
 split
 · omega
 · have := szCells_le s (l - s.length) (by omega); omega
def szTouch (r w : List Str) (l : Int) : Int := if szStringS r l < 0 then -1 else if szStringS w (szStringS r l) < 0 then -1 else szStringS w (szStringS r l)
theorem szTouch_le (r w : List Str) (l : Int) (h : 0 ≤ l) : szTouch r w l ≤ l ∧ -1 ≤ szTouch r w l := by
 have h1 := szStringS_le r l h
 unfold szTouch
 split
 · omega
 · have h2 := szStringS_le w (szStringS r l) (by omega)
   split <;> omega
end Go.Proofs.YthlfmbbaomdciaaGreatDoor
namespace Go.Proofs.YthlfmbbaomdciaaGreatDoor
open Go Go.RowKit
theorem mapS_flat (l : List Str) : l.map str = l.flatMap (fun s => [str s]) := by
 induction l with
 | nil => rfl
 | cons x l ih => rw [List.map_cons, List.flatMap_cons, ih]; rfl
end Go.Proofs.YthlfmbbaomdciaaGreatDoor
namespace Go.Proofs.YthlfmbbaomdciaaGreatDoor
open Go Go.RowKit
attribute [local irreducible] JL JC JQ JO LO PO JA JX Ct
/-- What the laws find of their marks. -/
def heldS : List Str → Nat → Int
 | [], k => k
 | x :: l, k => if x = mt k then heldS l (k + 1) else -1
theorem heldS_mark : ∀ (l : List Str) (k : Nat), heldS (markS l k) k = ((k + l.length : Nat) : Int)
 | [], k => rfl
 | x :: l, k => by
   rw [markS, heldS, if_pos rfl, heldS_mark l (k + 1), List.length_cons]
   congr 1; omega
theorem heldS_step {s : List Str} {j k : Nat} (h : j < s.length) : heldS (s.drop j) k = if s.getD j [] = mt k then heldS (s.drop (j + 1)) (k + 1) else -1 := by
 rw [drop_at (getD_some (d := []) h), heldS]
theorem markC_two {X : List Cell} {j : Nat} {a b v : Str} (h : j < X.length) : (X.set j (a, v)).set j (((X.set j (a, v)).getD j c0).1, b) = X.set j (a, b) := by
 have : (X.set j (a, v)).getD j c0 = (a, v) := by simp [h]
 rw [this, List.set_set]
theorem C_markText (k : Nat) (h0 : 0 < k) (h1 : k ≤ 10000000000) :
   Ct Tryz.prog 180 [.int .i64 ((k : Nat) : Int)] [] (fun _ => True) (fun v A' => v = str (mt k) ∧ A' = []) := by
 refine Ct.intro Tryz.func180 rfl Tryz.ntmps180 (lb rfl) fun w0 hpre => ?_
 refine go ?_
 by_cases h_1 : ((k : Nat) : Int) ≤ 0
 · refine go ?_
   refine jE (.inl rfl) rfl (jC (v := str [109, 48]) rfl) (List.nil_sublist _) ?_
   (exfalso; omega)
 refine go ?_
 refine jL (fun k_ e_ L_ => ∃ k1 : Nat, ∃ out : Str, (k1 ≤ k) ∧ (out.length + k1 ≤ k) ∧ (mtAcc k1 out = mtAcc k []) ∧ EL e_ [(0, nv k1), (2, str []), (3, str out)] ∧ L_ = [] ∧ k_ = k1 + 1) _ ⟨k, [], by omega, (by simp), rfl, EL.go, rfl, rfl⟩ ?_
 rintro _ _ _ ⟨k1, out, hk, hl, hR, ⟨_, rfl⟩, rfl, rfl⟩
 refine go ?_
 by_cases h_2 : 0 < ((k1 : Nat) : Int)
 · have hk0 : 0 < k1 := by omega
   refine go ?_
   refine kF rfl (PO.convI (c := ((48 + (k1 % 10) : Nat) : Int)) kW kU rfl (wr8 (by omega))) ?_
   refine jF rfl (jR (ps := [(0, .int .u8 ((48 + (k1 % 10) : Nat) : Int))]) (cur := #[.int .u8 ((48 + (k1 % 10) : Nat) : Int)]) kN kg kj rfl (by kernel_rfl) (by decide) (by decide)) ?_
   rintro _ _ ⟨a_3, rfl, rfl⟩
   refine JL.ld rfl (LO.toStr 0 [UInt8.ofNat (48 + (k1 % 10))] rfl kN kU kO rfl (by rw [List.map_cons, List.map_nil, encB_of _ (by omega)])) ?_
   refine go ?_
   exact jP [] ⟨(k1 / 10), [UInt8.ofNat (48 + (k1 % 10))] ++ out, by omega, (by simp only [List.length_append, List.length_cons, List.length_nil]; omega), (by rw [mtAcc_step hk0]; exact hR), EL.go, rfl, rfl⟩
 refine go ?_
 refine jE (.inl rfl) rfl (jC (v := str ([109] ++ out)) rfl) (List.nil_sublist _) ?_
 (refine ⟨?_, rfl⟩; rw [mt, ← hR, mtAcc_zero (by omega)]; rfl)

theorem C_markStringS (a : Option Addr) (c : Nat) (l : List Str) (k : Nat) (h0 : 0 < k) (h1 : k + l.length ≤ 10000000000) :
   Ct Tryz.prog 275 [.slice a l.length c, .int .i64 ((k : Nat) : Int)] [Res.row (.slice a l.length c) 9 1 l.length (l.map str)] (fun _ => True) (fun v A' => v = .int .i64 ((k + l.length : Nat) : Int) ∧ A' = [.row (.slice a l.length c) 9 1 l.length ((markS l k).map str)]) := by
 refine Ct.intro Tryz.func275 rfl Tryz.ntmps275 (lb rfl) fun w0 hpre => ?_
 refine go ?_
 refine jL (fun k_ e_ L_ => ∃ j : Nat, (j ≤ l.length) ∧ EL e_ [(0, .slice a l.length c), (1, iv ((k + j : Nat) : Int)), (4, iv 0), (5, nv j)] ∧ L_ = [Res.row (.slice a l.length c) 9 1 l.length (((markS l k).take j ++ l.drop j).map str)] ∧ k_ = l.length - j) _ ⟨0, by omega, EL.go, rfl, rfl⟩ ?_
 rintro _ _ _ ⟨j, hj, ⟨_, rfl⟩, rfl, rfl⟩
 refine go ?_
 by_cases h_1 : ((j : Nat) : Int) < ((l.length : Nat) : Int)
 · have hlt : j < l.length := by omega
   refine go ?_
   refine jN [] (C_markText (k + j) (by omega) (by omega)) ?_
   refine jo fun hst => ?_
   obtain ⟨hr_2, hr_2b, -⟩ := row_some 0 rfl (by omega) hst
   refine go ?_
   refine jF rfl (jx 0 (vs := [str (mt (k + j))]) (cs' := (((markS l k).take j ++ l.drop j).set j (mt (k + j))).map str) rfl rfl rfl rfl kM rfl rfl (by decide) (by rw [List.length_map]; rw [mark_len (markS_len l k) hj]; omega) (setS (by rw [mark_len (markS_len l k) hj]; omega))) ?_
   rintro _ _ rfl
   refine go ?_
   refine jV (l.length - (j + 1)) (by omega) ⟨j + 1, by omega, EL.go, (by rw [← markS_step hlt]; rfl), rfl⟩
 refine go ?_
 refine jE (.inl rfl) rfl (jC (v := iv ((k + j : Nat) : Int)) rfl) (List.Sublist.refl _) ?_
 exact ⟨by rw [show j = l.length by omega], by rw [mark_all (markS_len l k) (by omega)]⟩

theorem C_markCellS (a : Option Addr) (c : Nat) (l : List Cell) (k : Nat) (h0 : 0 < k) (h1 : k + 2 * l.length ≤ 10000000000) :
   Ct Tryz.prog 92 [.slice a l.length c, .int .i64 ((k : Nat) : Int)] [Res.row (.slice a l.length c) 130 2 l.length (l.flatMap encC)] (fun _ => True) (fun v A' => v = .int .i64 ((k + 2 * l.length : Nat) : Int) ∧ A' = [.row (.slice a l.length c) 130 2 l.length ((markC l k).flatMap encC)]) := by
 refine Ct.intro Tryz.func92 rfl Tryz.ntmps92 (lb rfl) fun w0 hpre => ?_
 refine go ?_
 refine jL (fun k_ e_ L_ => ∃ j : Nat, (j ≤ l.length) ∧ EL e_ [(0, .slice a l.length c), (1, iv ((k + 2 * j : Nat) : Int)), (4, iv 0), (5, nv j)] ∧ L_ = [Res.row (.slice a l.length c) 130 2 l.length (((markC l k).take j ++ l.drop j).flatMap encC)] ∧ k_ = l.length - j) _ ⟨0, by omega, EL.go, rfl, rfl⟩ ?_
 rintro _ _ _ ⟨j, hj, ⟨_, rfl⟩, rfl, rfl⟩
 refine go ?_
 by_cases h_1 : ((j : Nat) : Int) < ((l.length : Nat) : Int)
 · have hlt : j < l.length := by omega
   refine go ?_
   refine jN [] (C_markText (k + 2 * j) (by omega) (by omega)) ?_
   refine jo fun hst => ?_
   obtain ⟨hr_2, hr_2b, -⟩ := row_some 0 rfl (by omega) hst
   refine go ?_
   refine jF rfl (jx 0 (vs := [str (mt (k + 2 * j))]) (cs' := (((markC l k).take j ++ l.drop j).set j (mt (k + 2 * j), (((markC l k).take j ++ l.drop j).getD j c0).2)).flatMap encC) rfl rfl rfl rfl kM rfl rfl (by decide) (by rw [lenC]; (try rw [List.length_set]); rw [mark_len (markC_len l k) hj]; omega) (set1 (by (try rw [List.length_set]); rw [mark_len (markC_len l k) hj]; omega))) ?_
   rintro _ _ rfl
   refine go ?_
   refine jN [] (C_markText ((k + 2 * j) + 1) (by omega) (by omega)) ?_
   refine go ?_
   refine jF rfl (jx 0 (vs := [str (mt ((k + 2 * j) + 1))]) (cs' := ((((markC l k).take j ++ l.drop j).set j (mt (k + 2 * j), (((markC l k).take j ++ l.drop j).getD j c0).2)).set j (((((markC l k).take j ++ l.drop j).set j (mt (k + 2 * j), (((markC l k).take j ++ l.drop j).getD j c0).2)).getD j c0).1, mt ((k + 2 * j) + 1))).flatMap encC) rfl rfl rfl rfl kM rfl rfl (by decide) (by rw [lenC]; (try rw [List.length_set]); rw [mark_len (markC_len l k) hj]; omega) (set2 (by (try rw [List.length_set]); rw [mark_len (markC_len l k) hj]; omega))) ?_
   rintro _ _ rfl
   refine go ?_
   refine jV (l.length - (j + 1)) (by omega) ⟨j + 1, by omega, EL.go, (congrArg (fun q : List Cell => [Res.row (.slice a l.length c) 130 2 l.length (q.flatMap encC)]) ((markC_two (by rw [mark_len (markC_len l k) hj]; omega)).trans (markC_step hlt))), rfl⟩
 refine go ?_
 refine jE (.inl rfl) rfl (jC (v := iv ((k + 2 * j : Nat) : Int)) rfl) (List.Sublist.refl _) ?_
 exact ⟨by rw [show j = l.length by omega], by rw [mark_all (markC_len l k) (by omega)]⟩

theorem C_heldStringS (a : Option Addr) (n c : Nat) (s : List Str) (k : Nat) (hn : s.length = n) (h0 : 0 < k) (h1 : k + 1 * s.length ≤ 10000000000) :
   Ct Tryz.prog 276 [.slice a n c, .int .i64 ((k : Nat) : Int)] [] (fun w => Sees w (.slice a n c) 1 s.length (s.map str)) (fun v A' => v = .int .i64 (heldS s k) ∧ A' = []) := by
 refine Ct.intro Tryz.func276 rfl Tryz.ntmps276 (lb rfl) fun w0 hpre => ?_
 have hs_a : Sees w0 _ _ _ _ := hpre
 refine go ?_
 refine jL (fun k_ e_ L_ => ∃ j : Nat, (j ≤ s.length) ∧ (heldS (s.drop j) (k + j) = heldS s k) ∧ EL e_ [(0, .slice a n c), (1, iv ((k + j : Nat) : Int)), (5, nv j)] ∧ L_ = [] ∧ k_ = s.length - j) _ ⟨0, by omega, rfl, EL.go, rfl, rfl⟩ ?_
 rintro _ _ _ ⟨j, hj, hR, ⟨_, rfl⟩, rfl, rfl⟩
 refine go ?_
 by_cases h_1 : ((j : Nat) : Int) < ((n : Nat) : Int)
 · have hlt : j < s.length := by omega
   refine go ?_
   refine jH [] 6 ?_
   refine go ?_
   obtain ⟨hr_2, hr_2b, -⟩ := sees_some hs_a (by omega)
   refine go ?_
   refine JA.take 3 rfl (by kernel_rfl) (NP.th (NP.th (NP.bl (NP.th (NP.th (NP.bl (NP.th NP.body))))))) (by kernel_rfl) (by kernel_rfl) (by kernel_rfl) rfl (jY (v := str (s.getD j [])) hs_a nM rfl kJ (atS (by omega))) ?_
   refine go ?_
   refine jB (i := 5) ?_
   refine jI [] (C_markText (k + j) (by omega) (by omega)) ?_
   rintro _ _ ⟨rfl, rfl⟩
   refine go ?_
   by_cases h_3 : (s.getD j []) = (mt (k + j))
   · have heq0 := h_3
     refine go ?_
     refine jV (s.length - (j + 1)) (by omega) ⟨j + 1, by omega, (by rw [heldS_step hlt, if_pos heq0] at hR; exact hR), EL.go, rfl, rfl⟩
   have hne0 := h_3
   refine go ?_
   refine jE (.inl rfl) rfl (jC (v := iv (-1)) rfl) (List.nil_sublist _) ?_
   refine ⟨?_, rfl⟩
   rw [heldS_step hlt, if_neg hne0] at hR
   rw [← hR]
 refine go ?_
 refine jE (.inl rfl) rfl (jC (v := iv ((k + j : Nat) : Int)) rfl) (List.nil_sublist _) ?_
 refine ⟨?_, rfl⟩
 rw [List.drop_of_length_le (by omega)] at hR
 rw [← hR]
 rfl
end Go.Proofs.YthlfmbbaomdciaaGreatDoor
namespace Go.Proofs.YthlfmbbaomdciaaGreatDoor
open Go Go.RowKit
def szCallF (c : CL) (l : Int) : Int :=
 if l - (c.name.length : Int) < 0 then -1 else if l - (c.name.length : Int) - (c.to_.length : Int) < 0 then -1 else
 if l - (c.name.length : Int) - (c.to_.length : Int) - (c.text.length : Int) < 0 then -1 else l - (c.name.length : Int) - (c.to_.length : Int) - (c.text.length : Int)
theorem szCall_ok {c : CL} {l : Int} (h : ¬ szCallF c l < 0) : (c.name.length : Int) ≤ l ∧ (c.to_.length : Int) ≤ l ∧ (c.text.length : Int) ≤ l := by
 unfold szCallF at h
 split at h
 · omega
 · split at h
   · omega
   · split at h <;> omega
section
variable {α : Type} {enc : α → List Value} {k : Nat}
theorem flat_make (x : α) (m : Nat) : (List.replicate m (enc x)).flatten = (List.replicate m x).flatMap enc := by
 induction m with
 | zero => rfl
 | succ m ih => rw [List.replicate_succ, List.flatten_cons, ih, List.replicate_succ, List.flatMap_cons]
theorem flat_set1s (hk : ∀ x, (enc x).length = k) (d : α) {s : List α} {i f : Nat} {v : Value} {x y : α} (h : i < s.length) (hf : f < k) (hy : (enc x).set f v = enc y) :
   ((s.set i x).flatMap enc).take (i * k + f) ++ [v] ++ ((s.set i x).flatMap enc).drop (i * k + f + 1) = (s.set i y).flatMap enc := by
 have hx : (s.set i x).getD i d = x := by rw [List.getD_eq_getElem?_getD, List.getElem?_set_self h]; rfl
 have := flat_set1 hk d (s := s.set i x) (i := i) (f := f) (v := v) (y := y) (by rw [List.length_set]; exact h) hf (by rw [hx]; exact hy)
 rwa [List.set_set] at this
end
def szL {α : Type} (f : α → Int → Int) : List α → Int → Int
 | [], l => l
 | x :: s, l => if f x l < 0 then -1 else szL f s (f x l)
def szLS {α : Type} (f : α → Int → Int) (s : List α) (l : Int) : Int := if l - s.length < 0 then -1 else szL f s (l - s.length)
def szAnsF (a : AN) (l : Int) : Int := if l - (a.text.length : Int) < 0 then -1 else l - (a.text.length : Int)
theorem szL_step {α : Type} {f : α → Int → Int} {s : List α} {j : Nat} (d : α) (h : j < s.length) (l : Int) : szL f (s.drop j) l = if f (s.getD j d) l < 0 then -1 else szL f (s.drop (j + 1)) (f (s.getD j d) l) := by
 rw [drop_at (getD_some (d := d) h), szL]
theorem szCallF_le (c : CL) (l : Int) (h : 0 ≤ l) : szCallF c l ≤ l ∧ -1 ≤ szCallF c l := by
 unfold szCallF
 split
 · omega
 · split
   · omega
   · split <;> omega
theorem szAnsF_le (a : AN) (l : Int) (h : 0 ≤ l) : szAnsF a l ≤ l ∧ -1 ≤ szAnsF a l := by
 unfold szAnsF
 split <;> omega
theorem szL_le {α : Type} {f : α → Int → Int} (hf : ∀ x l, 0 ≤ l → f x l ≤ l ∧ -1 ≤ f x l) : ∀ (s : List α) (l : Int), 0 ≤ l → szL f s l ≤ l ∧ -1 ≤ szL f s l
 | [], l, h => by simp only [szL]; omega
 | x :: s, l, h => by
   have h1 := hf x l h
   unfold szL
   split
   · omega
   · have := szL_le hf s (f x l) (by omega)
     omega
theorem szLS_le {α : Type} {f : α → Int → Int} (hf : ∀ x l, 0 ≤ l → f x l ≤ l ∧ -1 ≤ f x l) (s : List α) (l : Int) (h : 0 ≤ l) : szLS f s l ≤ l ∧ -1 ≤ szLS f s l := by
 unfold szLS
 split
 · omega
 · have := szL_le hf s (l - s.length) (by omega)
   omega
def markG {α : Type} (mk : Nat → α) (m : Nat) : List α → Nat → List α
 | [], _ => []
 | _ :: l, k => mk k :: markG mk m l (k + m)
theorem markG_len {α : Type} (mk : Nat → α) (m : Nat) : ∀ (l : List α) (k : Nat), (markG mk m l k).length = l.length
 | [], _ => rfl
 | _ :: l, k => by simp [markG, markG_len mk m l]
theorem markG_get {α : Type} (mk : Nat → α) (m : Nat) (d : α) : ∀ (l : List α) (k j : Nat), j < l.length → (markG mk m l k).getD j d = mk (k + m * j)
 | [], k, j, h => by simp at h
 | x :: l, k, 0, _ => by simp [markG]
 | x :: l, k, j + 1, h => by
   have := markG_get mk m d l (k + m) j (by simpa using h)
   simp only [markG, List.getD_cons_succ, this]
   congr 1
   rw [Nat.mul_add]
   omega
theorem markG_step {α : Type} (mk : Nat → α) (m : Nat) {l : List α} {k j : Nat} (h : j < l.length) : ((markG mk m l k).take j ++ l.drop j).set j (mk (k + m * j)) = (markG mk m l k).take (j + 1) ++ l.drop (j + 1) := by
 have hj : ((markG mk m l k).take j).length = j := by rw [List.length_take, markG_len]; omega
 rw [List.set_append_right _ _ (by omega), hj, Nat.sub_self, List.drop_eq_getElem_cons h, List.set_cons_zero, List.take_add_one]
 have hg : (markG mk m l k)[j]? = some (mk (k + m * j)) := by
   rw [← markG_get mk m (mk 0) l k j h]
   exact getD_some (by rw [markG_len]; exact h)
 rw [hg]
 simp
theorem markG_lenj {α : Type} (mk : Nat → α) (m : Nat) {l : List α} {k j : Nat} (h : j ≤ l.length) : ((markG mk m l k).take j ++ l.drop j).length = l.length := by
 rw [List.length_append, List.length_take, markG_len, List.length_drop]; omega
def mkK (k : Nat) : CL := ⟨((k : Nat) : Int), mt (k + 1), mt (k + 2), ((k + 3 : Nat) : Int), ((k + 4 : Nat) : Int), mt (k + 5)⟩
def mkA (k : Nat) : AN := ⟨((k : Nat) : Int), ((k + 1 : Nat) : Int), mt (k + 2)⟩
section
variable {w0 w : World} {D : List Nat} {L F : List Res} {rs A B C : List RD} {r : RD}
theorem St.seeOutE {v : Value} {k m : Nat} {cs : List Value} (hw : St w0 D L w) (hs : SeesE w0 v k m cs) (hD : ∀ b, v.ownBlock = some b → b ∉ D) : SeesE w v k m cs := by
 rcases hs with hs | hs
 · exact .inl (hw.seeOut_ hs hD)
 · exact .inr hs
theorem St.seeOutAE (hw : St w0 D L w) (hs : SeesAE w0 rs) (hD : ∀ r ∈ rs, ∀ b, r.v.ownBlock = some b → b ∉ D) : SeesAE w rs := fun r hr => hw.seeOutE (hs r hr) (hD r hr)
end
section
variable {P : Program} {ops : Array Oper} {Q : Exit → Act → World → Prop} {n : Nat} {w0 : World} {D : List Nat} {L L' : List Res} {e : Env}
end
def mkI (k : Nat) : Int := ((k : Nat) : Int)
def szIntF (s : List Int) (l : Int) : Int := if l - s.length < 0 then -1 else l - s.length
/-- One measure behind another. -/
def chk (x : Int) (f : Int → Int) : Int := if x < 0 then -1 else f x
def okRI (s : List Int) : Prop := s.length ≤ 9223372036854775807
def okRK (s : List CL) : Prop := s.length ≤ 9223372036854775807 ∧ ∀ j, j < s.length → (s.getD j k0).ok 9223372036854775807
def okRA (s : List AN) : Prop := s.length ≤ 9223372036854775807 ∧ ∀ j, j < s.length → (s.getD j a0_).text.length ≤ 9223372036854775807
theorem szLS_take {α : Type} {f : α → Int → Int} (hf : ∀ x l, 0 ≤ l → f x l ≤ l ∧ -1 ≤ f x l) {s : List α} {l : Int} (h : ¬ szLS f s l < 0) : szLS f s l + s.length ≤ l := by
 unfold szLS at h ⊢
 split
 · rename_i h1; rw [if_pos h1] at h; omega
 · have := szL_le hf s (l - s.length) (by omega)
   omega
theorem szIntF_le (s : List Int) (l : Int) (h : 0 ≤ l) : szIntF s l ≤ l ∧ -1 ≤ szIntF s l := by unfold szIntF; split <;> omega
theorem szIntF_take {s : List Int} {l : Int} (h : ¬ szIntF s l < 0) : szIntF s l + s.length ≤ l := by unfold szIntF at *; split at h <;> omega
theorem szStringS_take {s : List Str} {l : Int} (h : ¬ szStringS s l < 0) : szStringS s l + s.length ≤ l := by
 unfold szStringS at h ⊢
 split
 · rename_i h1; rw [if_pos h1] at h; omega
 · have := szStrs_le s (l - s.length) (by omega)
   omega
theorem szTouch_take {r w : List Str} {l : Int} (h : ¬ szTouch r w l < 0) : szTouch r w l + r.length + w.length ≤ l := by
 unfold szTouch at h ⊢
 split
 · rename_i h1; rw [if_pos h1] at h; omega
 · rename_i h1
   rw [if_neg h1] at h
   split
   · rename_i h2; rw [if_pos h2] at h; omega
   · rename_i h2
     have a := szStringS_take h1
     have b := szStringS_take h2
     omega
theorem chk_le {x l : Int} {f : Int → Int} (h : 0 ≤ l) (hx : x ≤ l ∧ -1 ≤ x) (hf : 0 ≤ x → f x ≤ x ∧ -1 ≤ f x) : chk x f ≤ l ∧ -1 ≤ chk x f := by
 unfold chk
 split
 · omega
 · have := hf (by omega); omega
theorem chk_pos {x : Int} {f : Int → Int} (h : ¬ chk x f < 0) : ¬ x < 0 ∧ ¬ f x < 0 ∧ chk x f = f x := by
 unfold chk at *
 split at h
 · omega
 · rename_i hx; exact ⟨hx, h, by rw [if_neg hx]⟩
theorem seesXE {w : World} {p : TX} (h : SeesAE w (rdsX p)) : SeesE w (.slice p.x.a0 p.t.calls.length p.x.c0) 6 p.t.calls.length (p.t.calls.flatMap encK) ∧ SeesE w (.slice p.x.a1 p.t.ans.length p.x.c1) 3 p.t.ans.length (p.t.ans.flatMap encA) ∧ SeesE w (.slice p.x.a2 p.t.rd.length p.x.c2) 1 p.t.rd.length (p.t.rd.map str) ∧ SeesE w (.slice p.x.a3 p.t.wr.length p.x.c3) 1 p.t.wr.length (p.t.wr.map str) ∧ SeesE w (.slice p.x.a4 p.t.marks.length p.x.c4) 1 p.t.marks.length (p.t.marks.map (Value.int .i64)) := ⟨h.head, h.tail.head, h.tail.tail.head, h.tail.tail.tail.head, h.tail.tail.tail.tail.head⟩
def szTxF (t : TD) (l : Int) : Int := chk (szLS szCallF t.calls l) fun l => chk (szLS szAnsF t.ans l) fun l => chk (szTouch t.rd t.wr l) fun l => chk (szIntF t.marks l) id
theorem szTxF_le (t : TD) (l : Int) (h : 0 ≤ l) : szTxF t l ≤ l ∧ -1 ≤ szTxF t l := chk_le (by omega) (szLS_le szCallF_le t.calls _ (by omega)) (fun hx => chk_le (by omega) (szLS_le szAnsF_le t.ans _ (by omega)) (fun hx => chk_le (by omega) (szTouch_le t.rd t.wr _ (by omega)) (fun hx => chk_le (by omega) (szIntF_le t.marks _ (by omega)) (fun hx => ⟨Int.le_refl _, by simp only [id]; omega⟩))))
structure TD.okz (t : TD) : Prop where
 k0 : okRK t.calls
 k1 : okRA t.ans
 k2 : okS t.rd
 k3 : okS t.wr
 k4 : okRI t.marks
def cntXd (t : TD) : Nat := 1 + 1 + 1 + 1 + (6 * t.calls.length) + (3 * t.ans.length) + (t.rd.length) + (t.wr.length) + (1 * t.marks.length) + 1
theorem szTxF_all {t : TD} {l : Int} (h0 : 0 ≤ l) (h : ¬ szTxF t l < 0) : (t.calls.length : Int) ≤ l ∧ (t.ans.length : Int) ≤ l ∧ (t.rd.length : Int) ≤ l ∧ (t.wr.length : Int) ≤ l ∧ (t.marks.length : Int) ≤ l ∧ (cntXd t : Int) ≤ 7 + 7 * (l - szTxF t l) := by
 unfold szTxF at h ⊢
 obtain ⟨n0, h, e0⟩ := chk_pos h
 have le0 := szLS_le szCallF_le t.calls _ (by omega)
 have tk0 := szLS_take szCallF_le n0
 obtain ⟨n1, h, e1⟩ := chk_pos h
 have le1 := szLS_le szAnsF_le t.ans _ (by omega)
 have tk1 := szLS_take szAnsF_le n1
 obtain ⟨n2, h, e2⟩ := chk_pos h
 have le2 := szTouch_le t.rd t.wr _ (by omega)
 have tk2 := szTouch_take n2
 obtain ⟨n3, h, e3⟩ := chk_pos h
 have le3 := szIntF_le t.marks _ (by omega)
 have tk3 := szIntF_take n3
 simp only [e0, e1, e2, e3, id_eq, cntXd] at *
 omega
theorem mkInv.marked {i : Nat} {t z : TD} (h : mkInv i t) (hi : i < 4) (e : z = t.mark.1) : z.lim 500000000 ∧ okT z ∧ z.calls.length = i := by
 rw [mark_eq h hi] at e
 subst e
 have hl := h.lim (by omega)
 have hm := h.ml
 exact ⟨⟨hl.l0, hl.l1, hl.l2, hl.l3, by simp only [List.length_append, List.length_cons, List.length_nil]; omega⟩, ⟨h.cs, by have := h.n; show t.calls.length ≤ _; omega, by have := h.p; show -9223372036854775808 ≤ t.proc ∧ t.proc ≤ _; omega⟩, h.n⟩
end Go.Proofs.YthlfmbbaomdciaaGreatDoor
namespace Go.Proofs.YthlfmbbaomdciaaGreatDoor
open Go Go.RowKit
attribute [local irreducible] JL JC JQ JO LO PO JA JX Ct
theorem N_szCall (c : CL) (left : Int) (hc : c.ok 9223372036854775807) (hleft : -9223372036854775808 ≤ left ∧ left ≤ 9223372036854775807) (hl0 : 0 ≤ left) :
   Ct Tryz.prog 85 [.agg #[.int .i64 c.kind, str c.name, str c.to_, .int .i64 c.a, .int .i64 c.b, str c.text], .int .i64 left] ([]) (fun _ => True) (fun v A' => ∃ r0, szCallF c left = r0 ∧ v = .int .i64 r0 ∧ A' = []) := by
 refine Ct.intro Tryz.func85 rfl Tryz.ntmps85 (lb rfl) fun w0 hpre => ?_
 obtain ⟨hc1, hc2, hc3, hc4, hc5, hc6⟩ := id hc
 refine go ?_
 refine jM [iv c.kind, str c.name, str c.to_, iv c.a, iv c.b, str c.text] fun b_1 => ?_
 refine go ?_
 refine jK (jg (c := left - (c.name.length : Int)) rfl rfl (wr (by omega))) ?_
 refine go ?_
 by_cases h_2 : (left - (c.name.length : Int)) < 0
 · refine go ?_
   exact jJ [] ⟨(-1), (by simp only [szCallF, h_2, SB]; (repeat (first | rw [if_pos (by omega)] | rw [if_neg (by omega)])); all_goals (first | rfl | simp only [SB, h_2])), rfl, rfl⟩
 refine go ?_
 refine jK (jg (c := (left - (c.name.length : Int)) - (c.to_.length : Int)) rfl rfl (wr (by omega))) ?_
 refine go ?_
 by_cases h_3 : ((left - (c.name.length : Int)) - (c.to_.length : Int)) < 0
 · refine go ?_
   exact jJ [] ⟨(-1), (by simp only [szCallF, h_2, h_3, SB]; (repeat (first | rw [if_pos (by omega)] | rw [if_neg (by omega)])); all_goals (first | rfl | simp only [SB, h_2, h_3])), rfl, rfl⟩
 refine go ?_
 refine jK (jg (c := ((left - (c.name.length : Int)) - (c.to_.length : Int)) - (c.text.length : Int)) rfl rfl (wr (by omega))) ?_
 refine go ?_
 by_cases h_4 : (((left - (c.name.length : Int)) - (c.to_.length : Int)) - (c.text.length : Int)) < 0
 · refine go ?_
   exact jJ [] ⟨(-1), (by simp only [szCallF, h_2, h_3, h_4, SB]; (repeat (first | rw [if_pos (by omega)] | rw [if_neg (by omega)])); all_goals (first | rfl | simp only [SB, h_2, h_3, h_4])), rfl, rfl⟩
 refine go ?_
 exact jJ [] ⟨(((left - (c.name.length : Int)) - (c.to_.length : Int)) - (c.text.length : Int)), (by simp only [szCallF, h_2, h_3, h_4, SB]; (repeat (first | rw [if_pos (by omega)] | rw [if_neg (by omega)])); all_goals (first | rfl | simp only [SB, h_2, h_3, h_4])), rfl, rfl⟩

theorem N_toCall (c : CL) :
   Ct Tryz.prog 88 [.agg #[.int .i64 c.kind, str c.name, str c.to_, .int .i64 c.a, .int .i64 c.b, str c.text]] [] (fun _ => True) (fun v A' => v = .agg #[.int .i64 c.kind, str c.name, str c.to_, .int .i64 c.a, .int .i64 c.b, str c.text] ∧ A' = []) := by
 refine Ct.intro Tryz.func88 rfl Tryz.ntmps88 (lb rfl) fun w0 hpre => ?_
 refine go ?_
 refine jM [iv c.kind, str c.name, str c.to_, iv c.a, iv c.b, str c.text] fun b_1 => ?_
 refine jG [iv 0, str [], str [], iv 0, iv 0, str []] fun b_2 => ?_
 refine go ?_
 refine jG [iv 0, str [], str [], iv 0, iv 0, str []] fun b_3 => ?_
 refine go ?_
 refine jD 0 [iv c.kind, str [], str [], iv 0, iv 0, str []] ?_
 refine go ?_
 refine jD 0 [iv c.kind, str c.name, str [], iv 0, iv 0, str []] ?_
 refine go ?_
 refine jD 0 [iv c.kind, str c.name, str c.to_, iv 0, iv 0, str []] ?_
 refine go ?_
 refine jD 0 [iv c.kind, str c.name, str c.to_, iv c.a, iv 0, str []] ?_
 refine go ?_
 refine jD 0 [iv c.kind, str c.name, str c.to_, iv c.a, iv c.b, str []] ?_
 refine go ?_
 refine jD 0 [iv c.kind, str c.name, str c.to_, iv c.a, iv c.b, str c.text] ?_
 refine go ?_
 refine jD 1 [iv c.kind, str c.name, str c.to_, iv c.a, iv c.b, str c.text] ?_
 refine go ?_
 exact jJ [] ⟨rfl, rfl⟩

theorem N_eqAnswer (a : AN) :
   Ct Tryz.prog 90 [.agg #[.int .i64 a.code, .int .i64 a.n, str a.text], .agg #[.int .i64 a.code, .int .i64 a.n, str a.text]] [] (fun _ => True) (fun v A' => v = .bool true ∧ A' = []) := by
 refine Ct.intro Tryz.func90 rfl Tryz.ntmps90 (lb rfl) fun w0 hpre => ?_
 refine jc <| jy ?_
 refine jF rfl (JO.box (cs := [iv a.code, iv a.n, str a.text]) rfl rfl) ?_
 rintro _ _ ⟨b_1, rfl, rfl⟩
 refine jF rfl (JO.box (cs := [iv a.code, iv a.n, str a.text]) rfl rfl) ?_
 rintro _ _ ⟨b_2, rfl, rfl⟩
 refine jK (PO.assign (v := .bool false) rfl) <| jb ?_
 refine jT ?_
 refine jc <| jc <| jy <| jK (PO.fieldAddr fo39_0 rfl) <| jU (LO.load1 1 (v := iv a.code) rfl rfl kR rfl) <| jK (PO.fieldAddr fo39_0 rfl) <| jU (LO.load1 0 (v := iv a.code) rfl rfl kR rfl) <| jK (PO.neqI rfl rfl) <| jb ?_
 refine jT ?_
 refine JC.condF (cB (cN (dT rfl))) <| JC.skip ?_
 refine jT ?_
 refine jc <| jc <| jy <| jK (PO.fieldAddr fo39_1 rfl) <| jU (LO.load1 1 (v := iv a.n) rfl rfl kR rfl) <| jK (PO.fieldAddr fo39_1 rfl) <| jU (LO.load1 0 (v := iv a.n) rfl rfl kR rfl) <| jK (PO.neqI rfl rfl) <| jb ?_
 refine jT ?_
 refine JC.condF (cB (cN (dT rfl))) <| JC.skip ?_
 refine jT ?_
 refine jc <| jc <| jy <| jK (PO.fieldAddr fo39_2 rfl) <| jU (LO.load1 1 (v := str a.text) rfl rfl kJ rfl) <| jK (PO.fieldAddr fo39_2 rfl) <| jU (LO.load1 0 (v := str a.text) rfl rfl kJ rfl) <| jK (PO.neqS rfl rfl) <| jb ?_
 refine jT ?_
 refine JC.condF (cB (cN (dT rfl))) <| JC.skip ?_
 refine jT ?_
 refine jc <| jy <| jK (PO.assign (v := .bool true) rfl) <| jb ?_
 refine jT ?_
 refine jz <| jE (.inl rfl) rfl (jC (v := .bool true) rfl) (List.nil_sublist _) ?_
 exact ⟨rfl, rfl⟩
end Go.Proofs.YthlfmbbaomdciaaGreatDoor
