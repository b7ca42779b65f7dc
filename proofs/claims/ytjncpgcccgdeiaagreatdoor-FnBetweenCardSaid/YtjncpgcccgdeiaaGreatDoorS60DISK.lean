/-
  Texts of the walk, joined: what each one proves stands at its theorems.
-/
import Derived.Test.YtjncpgcccgdeiaaGreatDoorS41COPY
import Derived.Test.YtjncpgcccgdeiaaGreatDoorDatT
import Derived.Test.YtjncpgcccgdeiaaGreatDoorSlStr
import Derived.Laws.StructEq
set_option linter.unusedSimpArgs false
set_option linter.unusedVariables false
set_option linter.unnecessarySimpa false
namespace Go.Proofs.YtjncpgcccgdeiaaGreatDoor
open Go Go.RowKit
theorem disk_two {d : DX} (h : diskOk d.dat = true) : d.l.length = 2 := by
  rw [diskOk_dat] at h
  unfold diskOkF at h
  simp only [Bool.and_eq_true, decide_eq_true_eq] at h
  omega
theorem diskOk_slot {d : DD} (h : diskOk d = true) {i : Nat} (hi : i < d.slots.length) : slotG (d.slots.getD i o0.t) = true := by
  unfold diskOk diskOkF at h
  simp only [Bool.and_eq_true] at h
  exact rall_get h.2.2.1 hi
theorem bestF_whole (f : Nat → SD) : ∀ (n q : Nat), bestF f n = ((q : Nat) : Int) → (f q).whole = true
  | 0, q, h => by simp only [bestF] at h; omega
  | j + 1, q, h => by
    unfold bestF at h
    split at h
    · rename_i hc
      have : q = j := by omega
      rw [this]
      exact hc.1
    · exact bestF_whole f j q h
theorem best_whole {d : DD} {q : Nat} (hq : bestD d = ((q : Nat) : Int)) : (d.slots.getD q o0.t).whole = true := bestF_whole _ _ _ hq
theorem best_ok {d : DD} (h : diskOk d = true) : (d.slots.getD (bestD d).toNat o0.t).whole = true ∧ 0 ≤ mostOf d ∧ mostOf d ≤ 99999 ∧ storeOk (d.slots.getD (bestD d).toNat o0.t).cells = true := by
  obtain ⟨q, hq, hl⟩ := diskOk_best h
  have hw := best_whole hq
  have hs := diskOk_slot h hl
  unfold mostOf
  rw [hq, Int.toNat_natCast]
  rw [slotG, hw] at hs
  simp only [Bool.not_true, Bool.false_or, Bool.and_eq_true, within, decide_eq_true_eq] at hs
  exact ⟨hw, hs.1.1, hs.1.2, hs.2⟩
theorem most_range {d : DD} (h : diskOk d = true) : 0 ≤ mostOf d ∧ mostOf d ≤ 99999 := ⟨(best_ok h).2.1, (best_ok h).2.2.1⟩
theorem bro_max {x : Int} {k : Nat} (h : x ≤ ((k : Nat) : Int)) : max 0 x = ((bro x k : Nat) : Int) := by
  unfold bro
  omega
theorem trim_dat {y d : DX} {n : Nat} (hy : y.dat = d.dat) (hok : diskOk d.dat = true) (hn : n = trimL d.dat) (hj : d.js ≤ ((d.jt.length : Nat) : Int)) : (⟨y.a, y.c, y.l, d.jt.drop n, max 0 (d.js - ((n : Nat) : Int))⟩ : DX).dat = d.dat.trim := by
  have hle : n ≤ d.jt.length := by rw [hn]; exact trimN_le _ _
  rw [DD.trim, if_pos hok, ← hn]
  have h1 := congrArg DD.slots hy
  have h2 : max 0 (d.js - ((n : Nat) : Int)) = ((bro (d.js - ((n : Nat) : Int)) (d.jt.drop n).length : Nat) : Int) := bro_max (by rw [List.length_drop]; omega)
  simp only [DX.dat] at *
  rw [h1, h2]
/- what the records make of a store -/
def applyR (s : List Cell) (l : List Cell) : List Cell := l.foldl (fun s c => putKey s c.1 c.2) s
def applyAll (s : List Cell) (L : List (List Cell)) : List Cell := L.foldl applyR s
def recD (d : DD) : List (List Cell) × Nat := recsOf d.jt (mostOf d + 1)
def DD.clean (d : DD) : DD := if diskOk d = true then ⟨d.slots, d.jt.take (recD d).2, (((recD d).2 : Nat) : Int)⟩ else d
def DD.recov (d : DD) : List Cell × Int := if diskOk d = true then (applyAll (d.slots.getD (bestD d).toNat o0.t).cells (recD d).1, mostOf d + (((recD d).1.length : Nat) : Int)) else ([], 0)
theorem recD_of {d : DX} {m : Int} (h : m = mostOf d.dat) : recsOf d.jt (m + 1) = recD d.dat := by rw [h]; rfl
theorem clean_dat {y d : DX} {k : Nat} (hy : y.dat = d.dat) (hok : diskOk d.dat = true) (hn : (recD d.dat).2 = k) : (⟨y.a, y.c, y.l, d.jt.take k, ((k : Nat) : Int)⟩ : DX).dat = d.dat.clean := by
  rw [DD.clean, if_pos hok, hn]
  have h1 := congrArg DD.slots hy
  simp only [DX.dat] at *
  rw [h1]
theorem clean_not {d : DD} (h : diskOk d = false) : d.clean = d := by rw [DD.clean, if_neg (by rw [h]; exact Bool.false_ne_true)]
theorem trim_okz {d : DD} (h : d.okz) : d.trim.okz := by
  unfold DD.trim
  split
  · refine ⟨h.k0, h.k1, ?_⟩
    have := h.k2
    simp only [List.length_drop]
    omega
  · exact h
theorem trim_slots (d : DD) : d.trim.slots = d.slots := by unfold DD.trim; split <;> rfl
theorem clean_slots (d : DD) : d.clean.slots = d.slots := by unfold DD.clean; split <;> rfl
theorem DD.lim.of {d e : DD} {n : Nat} (h : d.lim n) (he : e.slots = d.slots) : e.lim n := ⟨by rw [he]; exact h.l0, by rw [he]; exact h.l1⟩
theorem trim_lim {d : DD} {n : Nat} (h : d.lim n) : d.trim.lim n := h.of (trim_slots d)
theorem recsOf_count (t : Str) (f : Int) : (recsOf t f).1.length ≤ t.length := by
  unfold recsOf
  split
  · have h1 := (recsG_sum f (linesOf t) 0).2
    have h2 := linesG_len t []
    unfold linesOf at *
    omega
  · exact Nat.zero_le _
/- how great a recovered store is -/
def sumC (L : List (List Cell)) : Nat := L.foldr (fun l n => l.length + n) 0
theorem readI_cells (x : Str) : (readI x).2.1.length ≤ x.length := by
  unfold readI
  split
  · exact Nat.zero_le _
  · split
    · exact Nat.zero_le _
    · rename_i h
      have h1 := (splitB_len 32 x).1
      simp only [List.length_map, midsOf, List.length_take, List.length_drop]
      omega
theorem recsG_cells (f : Int) : ∀ (l : List Str) (m : Nat), sumC (recsG f m l).1 ≤ (recsG f m l).2
  | [], m => Nat.le_refl _
  | x :: l, m => by
    have h1 := recsG_cells f l m
    have h2 := recsG_cells f l (m + 1)
    have h3 := readI_cells x
    unfold recsG
    split
    · exact Nat.le_refl _
    · split
      · dsimp only; omega
      · split
        · simp only [sumC, List.foldr_cons] at *; omega
        · exact Nat.le_refl _
theorem recsOf_cells (t : Str) (f : Int) : sumC (recsOf t f).1 ≤ (recsOf t f).2 := by
  unfold recsOf
  split
  · exact recsG_cells _ _ _
  · exact Nat.le_refl _
theorem applyR_len : ∀ (l s : List Cell), (applyR s l).length ≤ s.length + l.length
  | [], s => Nat.le_refl _
  | c :: l, s => by
    have h1 := applyR_len l (putKey s c.1 c.2)
    have h2 := putKey_len s c.1 c.2
    simp only [applyR, List.foldl_cons, List.length_cons] at *
    omega
theorem applyAll_len : ∀ (L : List (List Cell)) (s : List Cell), (applyAll s L).length ≤ s.length + sumC L
  | [], s => Nat.le_refl _
  | l :: L, s => by
    have h1 := applyAll_len L (applyR s l)
    have h2 := applyR_len l s
    simp only [applyAll, List.foldl_cons, sumC, List.foldr_cons] at *
    omega
theorem storeOk_len {s : List Cell} (h : storeOk s = true) : s.length ≤ 900 := by
  simp only [storeOk, Bool.and_eq_true, decide_eq_true_eq] at h
  omega
theorem jour_len {d : DD} (h : diskOk d = true) : d.jt.length ≤ 20000 := by
  have := diskOk_jour h
  simp only [jourOk, Bool.and_eq_true, decide_eq_true_eq] at this
  omega
theorem recov_len {d : DD} (h : diskOk d = true) : d.recov.1.length ≤ 20900 := by
  rw [DD.recov, if_pos h]
  have h1 := applyAll_len (recD d).1 (d.slots.getD (bestD d).toNat o0.t).cells
  have h2 := storeOk_len (best_ok h).2.2.2
  have h3 := recsOf_cells d.jt (mostOf d + 1)
  have h4 := recsOf_le d.jt (mostOf d + 1)
  have h5 := jour_len h
  unfold recD at *
  dsimp only
  omega
theorem recsG_key (f : Int) : ∀ (l : List Str) (m : Nat) (q : List Cell), q ∈ (recsG f m l).1 → ∀ c ∈ q, c.1.length ≤ 20000 ∧ c.2.length ≤ 20000
  | [], m, q, h => by cases h
  | x :: l, m, q, h => by
    unfold recsG at h
    split at h
    · cases h
    · split at h
      · exact recsG_key f l m q h
      · split at h
        · rcases List.mem_cons.1 h with rfl | h
          · intro c hc
            unfold readI at hc
            split at hc
            · cases hc
            · split at hc
              · cases hc
              · obtain ⟨w, _, rfl⟩ := List.mem_map.1 hc
                exact ⟨unhex_len _, unhex_len _⟩
          · exact recsG_key f l (m + 1) q h
        · cases h
theorem recsOf_key {t : Str} {f : Int} {q : List Cell} (h : q ∈ (recsOf t f).1) : ∀ c ∈ q, c.1.length ≤ 20000 ∧ c.2.length ≤ 20000 := by
  unfold recsOf at h
  split at h
  · exact recsG_key _ _ _ _ h
  · cases h
section
variable {y : List RX} {j i : Nat} {s : List Cell}
theorem rec_key {t : Str} {f : Int} (h : y.map cellsR = (recsOf t f).1) (hj : j < y.length) (hi : i < (y.getD j r0).t.cells.length) : ((y.getD j r0).t.cells.getD i c0).1.length ≤ 20000 ∧ ((y.getD j r0).t.cells.getD i c0).2.length ≤ 20000 :=
  recsOf_key (by rw [← h]; exact List.mem_map_of_mem (f := cellsR) (getD_mem (d := r0) hj)) _ (getD_mem (d := c0) hi)
theorem mapR_at (hj : j < y.length) : (y.map cellsR).drop j = (y.getD j r0).t.cells :: (y.map cellsR).drop (j + 1) := drop_at (map_getD (f := cellsR) r0 hj)
theorem applyAll_step (hj : j < y.length) : applyAll s ((y.map cellsR).drop j) = applyAll (applyR s (y.getD j r0).t.cells) ((y.map cellsR).drop (j + 1)) := by
  rw [mapR_at hj]
  rfl
theorem sumC_step (hj : j < y.length) : sumC ((y.map cellsR).drop j) = (y.getD j r0).t.cells.length + sumC ((y.map cellsR).drop (j + 1)) := by
  rw [mapR_at hj]
  rfl
theorem applyR_step {l : List Cell} (hi : i < l.length) : applyR s (l.drop i) = applyR (putKey s (l.getD i c0).1 (l.getD i c0).2) (l.drop (i + 1)) := by
  rw [drop_at (getD_some (d := c0) hi)]
  rfl
theorem putKey_one (s : List Cell) (k v : Str) : (putKey s k v).length ≤ s.length + 1 := putKey_len s k v
end
theorem recov_eq {d : DX} {s0 s1 : List Cell} {R : List (List Cell)} {m : Int} {k : Nat} (hok : diskOk d.dat = true) (h0 : s0 = (d.dat.slots.getD (bestD d.dat).toNat o0.t).cells) (hm : m = mostOf d.dat) (hR : R = (recsOf d.jt (m + 1)).1) (h1 : s1 = applyAll s0 R) (hk : R.length = k) : d.dat.recov = (s1, m + ((k : Nat) : Int)) := by
  rw [DD.recov, if_pos hok, h1, h0, hR, hm]
  rw [hR, hm] at hk
  rw [← hk]
  rfl
theorem recov_not {d : DD} (h : diskOk d = false) : d.recov = ([], 0) := by rw [DD.recov, if_neg (by rw [h]; exact Bool.false_ne_true)]
/- a checkpoint -/
def DD.foldB (d : DD) : DD × Bool :=
  if diskOk d = true ∧ ¬ (99999 : Int) < d.recov.2 ∧ ¬ d.recov.2 = mostOf d then (⟨d.slots.set (1 - (bestD d).toNat) ⟨d.recov.2, d.recov.1, false⟩, d.jt.take (recD d).2, (((recD d).2 : Nat) : Int)⟩, true) else (d, false)
def othD (d : DD) : SD := d.slots.getD (1 - (bestD d).toNat) o0.t
def DD.foldE (d : DD) : DD × Bool :=
  if diskOk d = true ∧ (othD d).whole = false ∧ mostOf d < (othD d).seq ∧ within 0 (othD d).seq 99999 = true ∧ storeOk (othD d).cells = true then (⟨d.slots.set (1 - (bestD d).toNat) ⟨(othD d).seq, (othD d).cells, true⟩, d.jt, d.js⟩, true) else (d, false)
def DD.folded (d : DD) : DD × Bool := if d.foldB.2 = true ∧ (d.foldB.1.foldE).2 = true then (d.foldB.1.foldE.1.trim, true) else (d, false)
theorem foldB_no {d : DD} (h : ¬ (diskOk d = true ∧ ¬ (99999 : Int) < d.recov.2 ∧ ¬ d.recov.2 = mostOf d)) : d.foldB = (d, false) := by rw [DD.foldB, if_neg h]
theorem foldB_yes {d : DD} (h : diskOk d = true ∧ ¬ (99999 : Int) < d.recov.2 ∧ ¬ d.recov.2 = mostOf d) : d.foldB = (⟨d.slots.set (1 - (bestD d).toNat) ⟨d.recov.2, d.recov.1, false⟩, d.jt.take (recD d).2, (((recD d).2 : Nat) : Int)⟩, true) := by rw [DD.foldB, if_pos h]
theorem foldE_no {d : DD} (h : ¬ (diskOk d = true ∧ (othD d).whole = false ∧ mostOf d < (othD d).seq ∧ within 0 (othD d).seq 99999 = true ∧ storeOk (othD d).cells = true)) : d.foldE = (d, false) := by rw [DD.foldE, if_neg h]
theorem foldE_yes {d : DD} (h : diskOk d = true ∧ (othD d).whole = false ∧ mostOf d < (othD d).seq ∧ within 0 (othD d).seq 99999 = true ∧ storeOk (othD d).cells = true) : d.foldE = (⟨d.slots.set (1 - (bestD d).toNat) ⟨(othD d).seq, (othD d).cells, true⟩, d.jt, d.js⟩, true) := by rw [DD.foldE, if_pos h]
/-- What is of a store: no cell longer than its bound. -/
def short (s : List Cell) : Prop := ∀ c ∈ s, c.1.length ≤ 9223372036854775807 ∧ c.2.length ≤ 9223372036854775807
theorem applyR_short : ∀ (l s : List Cell), short s → short (applyR s l)
  | [], s, h => h
  | c :: l, s, h => applyR_short l (putKey s c.1 c.2) fun q hq => by
    rcases putKey_mem hq with hq | ⟨rfl, h1, h2⟩
    · exact h q hq
    · exact ⟨by dsimp only; omega, by dsimp only; omega⟩
theorem applyAll_short : ∀ (L : List (List Cell)) (s : List Cell), short s → short (applyAll s L)
  | [], s, h => h
  | l :: L, s, h => applyAll_short L (applyR s l) (applyR_short l s h)
theorem okC_short {s : List Cell} (h : okC s) : short s := fun c hc => by
  obtain ⟨i, hi, rfl⟩ := List.getElem_of_mem hc
  have := h.2 i hi
  rwa [List.getD_eq_getElem?_getD, List.getElem?_eq_getElem hi, Option.getD_some] at this
theorem short_okC {s : List Cell} (h : short s) (hl : s.length ≤ 9223372036854775807) : okC s := ⟨hl, fun j hj => h _ (getD_mem hj)⟩
theorem getD_slot {d : DD} (hz : d.okz) {i : Nat} (hi : i < d.slots.length) : (d.slots.getD i o0.t).okz := hz.k1 _ (getD_mem hi)
theorem recov_okC {d : DD} (hz : d.okz) (h : diskOk d = true) : okC d.recov.1 := by
  obtain ⟨q, hq, hl⟩ := diskOk_best h
  refine short_okC ?_ (Nat.le_trans (recov_len h) (by decide))
  rw [DD.recov, if_pos h]
  exact applyAll_short _ _ (okC_short (getD_slot hz (by rw [hq, Int.toNat_natCast]; exact hl)).k0)
theorem mem_set {α : Type} {l : List α} {i : Nat} {x y : α} (h : x ∈ l.set i y) : x ∈ l ∨ x = y := by
  rcases List.mem_or_eq_of_mem_set h with h | h
  · exact .inl h
  · exact .inr h
theorem foldB_okz {d : DD} (hz : d.okz) : d.foldB.1.okz := by
  by_cases h : diskOk d = true ∧ ¬ (99999 : Int) < d.recov.2 ∧ ¬ d.recov.2 = mostOf d
  · rw [foldB_yes h]
    refine ⟨by rw [List.length_set]; exact hz.k0, fun s hs => ?_, ?_⟩
    · rcases mem_set hs with hs | rfl
      · exact hz.k1 s hs
      · exact ⟨recov_okC hz h.1⟩
    · have := hz.k2
      simp only [List.length_take]
      omega
  · rw [foldB_no h]; exact hz
theorem oth_lt {d : DD} (h : diskOk d = true) : 1 - (bestD d).toNat < d.slots.length := by
  have h2 : d.slots.length = 2 := by
    unfold diskOk diskOkF at h
    simp only [Bool.and_eq_true, decide_eq_true_eq] at h
    omega
  omega
theorem foldE_okz {d : DD} (hz : d.okz) : d.foldE.1.okz := by
  by_cases h : diskOk d = true ∧ (othD d).whole = false ∧ mostOf d < (othD d).seq ∧ within 0 (othD d).seq 99999 = true ∧ storeOk (othD d).cells = true
  · rw [foldE_yes h]
    refine ⟨by rw [List.length_set]; exact hz.k0, fun s hs => ?_, hz.k2⟩
    rcases mem_set hs with hs | rfl
    · exact hz.k1 s hs
    · exact ⟨(getD_slot hz (oth_lt h.1)).k0⟩
  · rw [foldE_no h]; exact hz
theorem foldB_lim {d : DD} {n : Nat} (hz : d.okz) (h : d.lim n) (hn : 20900 ≤ n) : d.foldB.1.lim n := by
  by_cases hc : diskOk d = true ∧ ¬ (99999 : Int) < d.recov.2 ∧ ¬ d.recov.2 = mostOf d
  · rw [foldB_yes hc]
    refine ⟨by rw [List.length_set]; exact h.l0, fun s hs => ?_⟩
    rcases mem_set hs with hs | rfl
    · exact h.l1 s hs
    · exact ⟨Nat.le_trans (recov_len hc.1) hn⟩
  · rw [foldB_no hc]; exact h
theorem foldE_lim {d : DD} {n : Nat} (h : d.lim n) : d.foldE.1.lim n := by
  by_cases hc : diskOk d = true ∧ (othD d).whole = false ∧ mostOf d < (othD d).seq ∧ within 0 (othD d).seq 99999 = true ∧ storeOk (othD d).cells = true
  · rw [foldE_yes hc]
    refine ⟨by rw [List.length_set]; exact h.l0, fun s hs => ?_⟩
    rcases mem_set hs with hs | rfl
    · exact h.l1 s hs
    · exact ⟨(h.l1 _ (getD_mem (oth_lt hc.1))).l0⟩
  · rw [foldE_no hc]; exact h
theorem flatMap_sameO {l : List OX} {i : Nat} {x : OX} (hi : i < l.length) (h : rdsO x = rdsO (l.getD i o0)) : (l.set i x).flatMap rdsO = l.flatMap rdsO := by
  rw [flatMap_setAt hi, h, ← flatMap_at o0 hi]
theorem fold_dat {a : Option Addr} {c q : Nat} {l : List OX} {d e : DD} {jt : Str} {js : Int} {el : OX} {x : SD} (hl : l.map OX.t = e.slots) (hj : jt = e.jt) (hs : js = e.js) (hq : bestD d = ((q : Nat) : Int)) (he : el.t = x) : (⟨a, c, l.set (1 - q) el, jt, js⟩ : DX).dat = ⟨e.slots.set (1 - (bestD d).toNat) x, e.jt, e.js⟩ := by
  simp only [DX.dat, List.map_set, hl, hj, hs, hq, Int.toNat_natCast, he]
end Go.Proofs.YtjncpgcccgdeiaaGreatDoor

set_option linter.unusedSimpArgs false
set_option linter.unusedVariables false
set_option linter.unnecessarySimpa false
namespace Go.Proofs.YtjncpgcccgdeiaaGreatDoor
open Go Go.RowKit
attribute [local irreducible] JL JC JQ JO LO PO JA JX Ct

theorem Y_iBestN (d : DX) (hz : d.dat.okz) (hl : d.l.length ≤ 1000000000) (q : Nat) (hq : bestD d.dat = ((q : Nat) : Int)) : Ct Tryz.prog 48 [.agg #[.slice d.a d.l.length d.c, str d.jt, .int .i64 d.js]] [] (fun w => SeesA w (rdsD d)) (fun v A' => v = .int .i64 ((q : Nat) : Int) ∧ A' = []) :=
  (Y_iBest d hz hl).weak (fun _ h => h) fun v A' ⟨hv, hA⟩ => ⟨by rw [hv, hq], hA⟩

set_option maxRecDepth 4000 in
set_option maxHeartbeats 1000000 in
theorem Y_iTrim (d : DX) (hz : d.dat.okz) (hl : d.dat.lim 1000000000) :
    Ct Tryz.prog 14 [.agg #[.slice d.a d.l.length d.c, str d.jt, .int .i64 d.js]] [] (fun w => SeesA w (rdsD d) ∧ HexOk w) (fun v A' => ∃ y : DX, y.dat = d.dat.trim ∧ v = .agg #[.slice y.a y.l.length y.c, str y.jt, .int .i64 y.js] ∧ A' = [.rows (rdsD y)]) := by
  refine Ct.introL Tryz.func14 rfl Tryz.ntmps14 (lb rfl) fun w0 hpre hlow => ?_
  have hs_1 : Sees w0 (.slice d.a d.l.length d.c) 3 d.l.length (d.l.flatMap encO) := (hpre.1).head
  have hi_2 : SeesA w0 (d.l.flatMap rdsO) := (hpre.1).tail
  have hjt := hz.k2
  have hdl : d.l.length ≤ 1000000000 := by have := hl.l0; simpa only [DX.dat, List.length_map] using this
  refine jC <| jF ?_
  refine jH rfl (kG (cs := [.slice d.a d.l.length d.c, str d.jt, iv d.js]) rfl rfl) ?_
  rintro _ _ ⟨b_3, rfl, rfl⟩
  refine jH rfl (jo (z := .agg #[.slice none 0 0, str [], iv 0]) (cs := [.slice none 0 0, str [], iv 0]) ko rfl) ?_
  rintro _ _ ⟨b_4, rfl, rfl⟩
  refine jE <| jB <| jC <| jF <| jK (jO 1 (vs := [.slice d.a d.l.length d.c, str d.jt, iv d.js]) rfl rfl ke kd rfl rfl) ?_
  refine jH rfl (jI [] Tryz.call62 rfl (Z_implDiskclone d hl) rfl (fun w hw => hw.seeOutA hpre.1 nMA)) ?_
  rintro _ _ ⟨_, ⟨y_5, hy_6, rfl, rfl⟩, rfl⟩
  refine jH rfl (jo (z := .agg #[.slice none 0 0, str [], iv 0]) (cs := [.slice none 0 0, str [], iv 0]) ko rfl) ?_
  rintro _ _ ⟨b_7, rfl, rfl⟩
  refine jH rfl (ja 0 (vs := [.slice y_5.a y_5.l.length y_5.c, str y_5.jt, iv y_5.js]) (cs' := [.slice y_5.a y_5.l.length y_5.c, str y_5.jt, iv y_5.js]) rfl rfl rfl rfl kd rfl rfl (lb rfl) rfl) ?_
  rintro _ _ rfl
  refine jE <| jB <| jC <| jC <| jF <| jK (jO 3 (vs := [.slice d.a d.l.length d.c, str d.jt, iv d.js]) rfl rfl ke kd rfl rfl) ?_
  refine jH rfl (jI [] Tryz.call47 rfl (Y_implDiskOk d hz (by omega)) rfl (fun w hw => hw.seeOutA hpre.1 nMA)) ?_
  rintro _ _ ⟨_, ⟨rfl, rfl⟩, rfl⟩
  refine jA (jp rfl) <| jE <| jB ?_
  rcases Bool.eq_false_or_eq_true (diskOk d.dat) with h_8 | h_8
  · refine jR (cB (cN h_8)) <| jT <| jB <| jC <| jF <| jA (jG (v := iv 0) rfl) <| jE <| jB <| jC <| jC ?_
    obtain ⟨q, hq, hql⟩ := diskOk_best h_8
    have hql : q < d.l.length := by simpa only [DX.dat, List.length_map] using hql
    have hjr := diskOk_jour h_8
    have hjr2 : ((d.jt.length : Nat) : Int) ≤ 20000 ∧ 0 ≤ d.js ∧ d.js ≤ ((d.jt.length : Nat) : Int) := by have h_ : jourOk d.jt d.js = true := hjr; simpa only [jourOk, within, Bool.and_eq_true, decide_eq_true_eq, and_assoc] using h_
    have hmost : (d.l.getD q o0).t.seq = mostOf d.dat := by rw [mostOf, hq, Int.toNat_natCast]; exact congrArg SD.seq getD_map'.symm
    have hmr := most_range h_8
    have hl2 := disk_two h_8
    have htl := trimN_le (d.l.getD q o0).t.seq d.jt
    refine jF <| jA (jQ fo31_1 rfl) <| jA (jQ fo29_0 rfl) <| jK (jZ 3 (v := str d.jt) rfl rfl ki rfl) ?_
    refine jH rfl (jI [] Tryz.call63 rfl (Y_iLines d.jt (by omega)) rfl (fun _ _ => trivial)) ?_
    rintro _ _ ⟨_, ⟨a_9, c_10, rfl, rfl⟩, rfl⟩
    refine jA (jr ku rfl) <| jA (jD (v := iv 0) rfl) <| jE <| jB <| jf <| kD (fun k_ e_ L_ => ∃ i : Nat, ∃ n : Nat, (i ≤ (linesOf d.jt).length) ∧ (n + trimN (d.l.getD q o0).t.seq ((linesOf d.jt).drop i) = trimN (d.l.getD q o0).t.seq (linesOf d.jt)) ∧ e_ 1 = .pointer (some ⟨b_3, 0, none⟩) ∧ e_ 2 = .pointer (some ⟨b_4, 0, none⟩) ∧ e_ 3 = .pointer (some ⟨b_7, 0, none⟩) ∧ e_ 4 = nv n ∧ e_ 19 = .slice a_9 ((linesOf d.jt).length) c_10 ∧ e_ 20 = iv (((linesOf d.jt).length : Nat) : Int) ∧ e_ 21 = nv i ∧ L_ = [rS a_9 c_10 (linesOf d.jt), bk b_7 31 [.slice y_5.a y_5.l.length y_5.c, str y_5.jt, iv y_5.js], Res.rows (rdsD y_5), bk b_4 31 [.slice none 0 0, str [], iv 0], bk b_3 31 [.slice d.a d.l.length d.c, str d.jt, iv d.js]] ∧ k_ = (linesOf d.jt).length - i) _ ⟨0, 0, by omega, (by simp), rfl, rfl, rfl, rfl, rfl, rfl, rfl, rfl, rfl⟩ ?_
    rintro _ e_11 _ ⟨i, n, hi, hR, he_12, he_13, he_14, he_15, he_16, he_17, he_18, rfl, rfl⟩
    refine jC <| jF <| jA (jl he_18 he_17) <| jE <| jB <| jC ?_
    by_cases h_19 : ((i : Nat) : Int) < (((linesOf d.jt).length : Nat) : Int)
    · have hlt : i < (linesOf d.jt).length := by omega
      have hml : ((linesOf d.jt).getD i []).length ≤ 0 + d.jt.length := linesG_mem d.jt [] _ (getD_mem (d := []) hlt)
      have hll : (linesOf d.jt).length ≤ d.jt.length := linesG_len d.jt []
      refine jW (cB (dT h_19)) <| jT <| jB <| jC <| jf <| jC <| jF ?_
      refine kN fun hst => ?_
      obtain ⟨hr_20, hr_20b, -⟩ := row_some 0 rfl (by omega) hst
      refine jA (jk (i := i) ku kt hr_20 hr_20b he_16 he_18 (by omega)) <| jK (ka 0 (v := str ((linesOf d.jt).getD i [])) rfl rfl ki (atS (by omega))) <| jA (jG (v := str ((linesOf d.jt).getD i [])) rfl) <| jE <| jB <| jC <| jF <| jA (jD (v := str ((linesOf d.jt).getD i [])) rfl) ?_
      refine jH rfl (jI [] Tryz.call64 rfl (Y_iRead ((linesOf d.jt).getD i []) (by omega)) rfl (fun w hw => hw.hex hlow hpre.2)) ?_
      rintro _ _ ⟨_, ⟨a_21, c_22, rfl, rfl⟩, rfl⟩
      refine jA (jD (v := .tuple #[iv ((readI ((linesOf d.jt).getD i [])).1), .slice a_21 ((readI ((linesOf d.jt).getD i [])).2.1.length) c_22, .bool ((readI ((linesOf d.jt).getD i [])).2.2)]) rfl) <| jA (je (v := iv ((readI ((linesOf d.jt).getD i [])).1)) rfl rfl) <| jA (je (v := .slice a_21 ((readI ((linesOf d.jt).getD i [])).2.1.length) c_22) rfl rfl) <| jA (je (v := .bool ((readI ((linesOf d.jt).getD i [])).2.2)) rfl rfl) <| jA (jG (v := iv ((readI ((linesOf d.jt).getD i [])).1)) rfl) <| jA (jG (v := .slice a_21 ((readI ((linesOf d.jt).getD i [])).2.1.length) c_22) rfl) <| jA (jG (v := .bool ((readI ((linesOf d.jt).getD i [])).2.2)) rfl) <| jE <| jB <| jC ?_
      refine jC <| kJ [Res.row (.slice a_21 ((readI ((linesOf d.jt).getD i [])).2.1.length) c_22) 48 2 (((readI ((linesOf d.jt).getD i [])).2.1).length) (((readI ((linesOf d.jt).getD i [])).2.1).flatMap encC), rS a_9 c_10 (linesOf d.jt), bk b_7 31 [.slice y_5.a y_5.l.length y_5.c, str y_5.jt, iv y_5.js], Res.rows (rdsD y_5), bk b_4 31 [.slice none 0 0, str [], iv 0], bk b_3 31 [.slice d.a d.l.length d.c, str d.jt, iv d.js]] 1000 mixed (by simp) <| jL 0 rfl (jD (v := .bool ((readI ((linesOf d.jt).getD i [])).2.2)) rfl) <| jL 1 rfl (jp rfl) <| jL 2 rfl (jD (v := .bool (!((readI ((linesOf d.jt).getD i [])).2.2))) rfl) ?_
      rcases Bool.eq_false_or_eq_true ((readI ((linesOf d.jt).getD i [])).2.2) with h_23 | h_23
      · refine jg 3 rfl (by kernel_rfl) (NP.th (NP.th (NP.bl (NP.th (NP.th (NP.bl (NP.th NP.body))))))) (by kernel_rfl) (by kernel_rfl) rfl rfl rfl (cB (cN h_23)) (jD (v := iv ((readI ((linesOf d.jt).getD i [])).1)) rfl) <| jg 4 rfl (by kernel_rfl) (NP.th (NP.th (NP.bl (NP.th (NP.th (NP.bl (NP.th NP.body))))))) (by kernel_rfl) (by kernel_rfl) rfl rfl rfl (cB (cN h_23)) (jQ fo31_0 he_12) <| kK 5 rfl (by kernel_rfl) (NP.th (NP.th (NP.bl (NP.th (NP.th (NP.bl (NP.th NP.body))))))) (by kernel_rfl) (by kernel_rfl) (by kernel_rfl) rfl rfl rfl (cB (cN h_23)) (jZ 5 (v := .slice d.a d.l.length d.c) rfl rfl ks rfl) <| kK 6 rfl (by kernel_rfl) (NP.th (NP.th (NP.bl (NP.th (NP.th (NP.bl (NP.th NP.body))))))) (by kernel_rfl) (by kernel_rfl) (by kernel_rfl) rfl rfl rfl (cB (cN h_23)) (jO 5 (vs := [.slice d.a d.l.length d.c, str d.jt, iv d.js]) rfl he_12 ke kd rfl rfl) <| jj (i := 7) ?_
        refine kQ rfl rfl rfl rfl (cB (cN h_23)) (jI [] Tryz.call48 rfl (Y_iBestN d hz (by omega) q hq) rfl (fun w hw => hw.seeOutA hpre.1 nMA)) ?_
        rintro _ _ ⟨_, ⟨rfl, rfl⟩, rfl⟩
        refine ⟨by simp, ?_⟩
        obtain ⟨hr_24, hr_24b, -⟩ := sees_some hs_1 (by omega)
        refine jg 8 rfl (by kernel_rfl) (NP.th (NP.th (NP.bl (NP.th (NP.th (NP.bl (NP.th NP.body))))))) (by kernel_rfl) (by kernel_rfl) rfl rfl rfl (cB (cN h_23)) (jk (i := q) km kj hr_24 hr_24b rfl rfl (by omega)) <| jg 9 rfl (by kernel_rfl) (NP.th (NP.th (NP.bl (NP.th (NP.th (NP.bl (NP.th NP.body))))))) (by kernel_rfl) (by kernel_rfl) rfl rfl rfl (cB (cN h_23)) (kL fo60_0 hr_24 rfl) ?_
        have hi_25 := SeesA.elem hi_2 o0 (show q < d.l.length by omega)
        have hs_26 := seesO hi_25
        refine kK 10 rfl (by kernel_rfl) (NP.th (NP.th (NP.bl (NP.th (NP.th (NP.bl (NP.th NP.body))))))) (by kernel_rfl) (by kernel_rfl) (by kernel_rfl) rfl rfl rfl (cB (cN h_23)) (kY (v := iv ((d.l.getD q o0).t.seq)) hs_1 nM rfl kq (flat_at encO_len o0 d.l q 0 (by omega) (by decide))) <| jg 11 rfl (by kernel_rfl) (NP.th (NP.th (NP.bl (NP.th (NP.th (NP.bl (NP.th NP.body))))))) (by kernel_rfl) (by kernel_rfl) rfl rfl rfl (cB (cN h_23)) (kR rfl rfl) <| jL 12 rfl (ji (v := .bool (decide (((d.l.getD q o0).t.seq) < ((readI ((linesOf d.jt).getD i [])).1)))) (cB (cN h_23)) rfl) <| kI (by kernel_rfl) <| jB ?_
        by_cases h_27 : ((d.l.getD q o0).t.seq) < ((readI ((linesOf d.jt).getD i [])).1)
        · refine jW (cB (dT h_27)) <| jx <| jb <| JQ.blockO rfl <| jb <| jb <| jy <| jB <| jC <| jF ?_
          refine jA (jQ fo31_1 he_12) <| jA (jQ fo29_0 rfl) <| jK (jZ 5 (v := str d.jt) rfl rfl ki rfl) <| jA (jD (v := nv n) he_15) <| jA (PO.sliceSl (i := n) kg rfl rfl (by omega)) <| jA (jQ fo31_1 he_14) <| jA (jQ fo29_0 rfl) ?_
          refine jH rfl (ja 2 (vs := [str (d.jt.drop n)]) (cs' := [.slice y_5.a y_5.l.length y_5.c, str (d.jt.drop n), iv y_5.js]) rfl rfl rfl rfl kt rfl rfl (lb rfl) rfl) ?_
          rintro _ _ rfl
          refine jE <| jB <| jC <| jF <| jA (jQ fo31_1 he_12) <| jA (jQ fo29_1 rfl) <| jK (jZ 5 (v := iv d.js) rfl rfl kq rfl) <| jA (jD (v := nv n) he_15) <| jA (kZ (c := d.js - ((n : Nat) : Int)) rfl rfl (wr (by omega))) <| jA (PO.max2D (c := max 0 (d.js - ((n : Nat) : Int))) rfl rfl rfl) ?_
          refine jA (jQ fo31_1 he_14) <| jA (jQ fo29_1 rfl) ?_
          refine jH rfl (ja 2 (vs := [iv (max 0 (d.js - ((n : Nat) : Int)))]) (cs' := [.slice y_5.a y_5.l.length y_5.c, str (d.jt.drop n), iv (max 0 (d.js - ((n : Nat) : Int)))]) rfl rfl rfl rfl gA rfl rfl (lb rfl) rfl) ?_
          rintro _ _ rfl
          refine jE <| jB <| jC <| jF <| jK (jO 2 (vs := [.slice y_5.a y_5.l.length y_5.c, str (d.jt.drop n), iv (max 0 (d.js - ((n : Nat) : Int)))]) rfl he_14 ke kd rfl rfl) ?_
          refine jH rfl (ja 4 (vs := [.slice y_5.a y_5.l.length y_5.c, str (d.jt.drop n), iv (max 0 (d.js - ((n : Nat) : Int)))]) (cs' := [.slice y_5.a y_5.l.length y_5.c, str (d.jt.drop n), iv (max 0 (d.js - ((n : Nat) : Int)))]) rfl he_13 rfl rfl kd rfl rfl (lb rfl) rfl) ?_
          rintro _ _ rfl
          refine jE <| jB <| jN <| kM (pick_perm [3] (A := [Res.rows (rdsD y_5)]) (F := [Res.row (.slice a_21 ((readI ((linesOf d.jt).getD i [])).2.1.length) c_22) 48 2 (((readI ((linesOf d.jt).getD i [])).2.1).length) (((readI ((linesOf d.jt).getD i [])).2.1).flatMap encC), rS a_9 c_10 (linesOf d.jt), bk b_7 31 [.slice y_5.a y_5.l.length y_5.c, str (d.jt.drop n), iv (max 0 (d.js - ((n : Nat) : Int)))], bk b_4 31 [.slice y_5.a y_5.l.length y_5.c, str (d.jt.drop n), iv (max 0 (d.js - ((n : Nat) : Int)))], bk b_3 31 [.slice d.a d.l.length d.c, str d.jt, iv d.js]]) rfl).symm <| jV (.inl rfl) rfl (kA (jO 4 (vs := [.slice y_5.a y_5.l.length y_5.c, str (d.jt.drop n), iv (max 0 (d.js - ((n : Nat) : Int)))]) rfl he_13 ke kd rfl rfl) ⟨_, he_13⟩) (tS 1 _) ?_
          have hn : n = trimL d.dat := by unfold trimL; show n = trimN (mostOf d.dat) (linesOf d.jt); rw [← hmost]; first | (rw [trimN_step hlt, if_pos (by first | exact .inl (by assumption) | exact .inr (by assumption))] at hR; exact hR) | (rw [show (linesOf d.jt).drop i = [] from List.drop_of_length_le (by omega), trimN] at hR; exact hR)
          exact ⟨(⟨y_5.a, y_5.c, y_5.l, d.jt.drop n, max 0 (d.js - ((n : Nat) : Int))⟩ : DX), trim_dat (y := y_5) hy_6 h_8 hn hjr2.2.2, rfl, rfl⟩
        refine jR (cB (dF h_27)) <| jT <| jB <| jF <| jA (jD (v := nv n) he_15) <| jA (jD (v := str ((linesOf d.jt).getD i [])) rfl) <| jA (kF kg rfl) <| jA (jc (c := ((n + (((linesOf d.jt).getD i []).length) : Nat) : Int)) rfl rfl (wr (by omega))) <| jA (jG (v := iv ((n + (((linesOf d.jt).getD i []).length) : Nat) : Int)) rfl) <| jE ?_
        refine jm <| jB <| jF <| jA (jc (c := ((i + 1 : Nat) : Int)) he_18 rfl (wr (by omega))) <| jA (jD (v := iv ((i + 1 : Nat) : Int)) rfl) <| jE <| kB [1, 1, 1, 1, 1] (A := [rS a_9 c_10 (linesOf d.jt), bk b_7 31 [.slice y_5.a y_5.l.length y_5.c, str y_5.jt, iv y_5.js], Res.rows (rdsD y_5), bk b_4 31 [.slice none 0 0, str [], iv 0], bk b_3 31 [.slice d.a d.l.length d.c, str d.jt, iv d.js]]) rfl ?_
        refine jq ((linesOf d.jt).length - (i + 1)) (by omega) ⟨i + 1, n + (((linesOf d.jt).getD i []).length), by omega, (by rw [trimN_step hlt, if_neg (by rintro (h_ | h_); (rw [show (readI ((linesOf d.jt).getD i [])).2.2 = true by assumption] at h_; cases h_); omega)] at hR; omega), he_12, he_13, he_14, rfl, he_16, he_17, rfl, rfl, rfl⟩
      refine jd 3 (b := true) rfl (by kernel_rfl) (NP.th (NP.th (NP.bl (NP.th (NP.th (NP.bl (NP.th NP.body))))))) (by kernel_rfl) (by kernel_rfl) rfl rfl rfl (cB (cN h_23)) <| jd 4 (b := true) rfl (by kernel_rfl) (NP.th (NP.th (NP.bl (NP.th (NP.th (NP.bl (NP.th NP.body))))))) (by kernel_rfl) (by kernel_rfl) rfl rfl rfl (cB (cN h_23)) <| jd 5 (b := true) rfl (by kernel_rfl) (NP.th (NP.th (NP.bl (NP.th (NP.th (NP.bl (NP.th NP.body))))))) (by kernel_rfl) (by kernel_rfl) rfl rfl rfl (cB (cN h_23)) <| jd 6 (b := true) rfl (by kernel_rfl) (NP.th (NP.th (NP.bl (NP.th (NP.th (NP.bl (NP.th NP.body))))))) (by kernel_rfl) (by kernel_rfl) rfl rfl rfl (cB (cN h_23)) <| jd 7 (b := true) rfl (by kernel_rfl) (NP.th (NP.th (NP.bl (NP.th (NP.th (NP.bl (NP.th NP.body))))))) (by kernel_rfl) (by kernel_rfl) rfl rfl rfl (cB (cN h_23)) <| jd 8 (b := true) rfl (by kernel_rfl) (NP.th (NP.th (NP.bl (NP.th (NP.th (NP.bl (NP.th NP.body))))))) (by kernel_rfl) (by kernel_rfl) rfl rfl rfl (cB (cN h_23)) <| jd 9 (b := true) rfl (by kernel_rfl) (NP.th (NP.th (NP.bl (NP.th (NP.th (NP.bl (NP.th NP.body))))))) (by kernel_rfl) (by kernel_rfl) rfl rfl rfl (cB (cN h_23)) <| jd 10 (b := true) rfl (by kernel_rfl) (NP.th (NP.th (NP.bl (NP.th (NP.th (NP.bl (NP.th NP.body))))))) (by kernel_rfl) (by kernel_rfl) rfl rfl rfl (cB (cN h_23)) <| jd 11 (b := true) rfl (by kernel_rfl) (NP.th (NP.th (NP.bl (NP.th (NP.th (NP.bl (NP.th NP.body))))))) (by kernel_rfl) (by kernel_rfl) rfl rfl rfl (cB (cN h_23)) <| jL 12 rfl (jh (v := .bool true) (cB (cN h_23)) rfl) ?_
      refine kI (by kernel_rfl) <| jB <| jW (cB rfl) <| jx <| jb <| JQ.blockO rfl <| jb <| jb <| jy <| jB ?_
      refine jC <| jF <| jA (jQ fo31_1 he_12) <| jA (jQ fo29_0 rfl) <| jK (jZ 5 (v := str d.jt) rfl rfl ki rfl) <| jA (jD (v := nv n) he_15) <| jA (PO.sliceSl (i := n) kg rfl rfl (by omega)) <| jA (jQ fo31_1 he_14) <| jA (jQ fo29_0 rfl) ?_
      refine jH rfl (ja 2 (vs := [str (d.jt.drop n)]) (cs' := [.slice y_5.a y_5.l.length y_5.c, str (d.jt.drop n), iv y_5.js]) rfl rfl rfl rfl kt rfl rfl (lb rfl) rfl) ?_
      rintro _ _ rfl
      refine jE <| jB <| jC <| jF <| jA (jQ fo31_1 he_12) <| jA (jQ fo29_1 rfl) <| jK (jZ 5 (v := iv d.js) rfl rfl kq rfl) <| jA (jD (v := nv n) he_15) <| jA (kZ (c := d.js - ((n : Nat) : Int)) rfl rfl (wr (by omega))) <| jA (PO.max2D (c := max 0 (d.js - ((n : Nat) : Int))) rfl rfl rfl) ?_
      refine jA (jQ fo31_1 he_14) <| jA (jQ fo29_1 rfl) ?_
      refine jH rfl (ja 2 (vs := [iv (max 0 (d.js - ((n : Nat) : Int)))]) (cs' := [.slice y_5.a y_5.l.length y_5.c, str (d.jt.drop n), iv (max 0 (d.js - ((n : Nat) : Int)))]) rfl rfl rfl rfl gA rfl rfl (lb rfl) rfl) ?_
      rintro _ _ rfl
      refine jE <| jB <| jC <| jF <| jK (jO 2 (vs := [.slice y_5.a y_5.l.length y_5.c, str (d.jt.drop n), iv (max 0 (d.js - ((n : Nat) : Int)))]) rfl he_14 ke kd rfl rfl) ?_
      refine jH rfl (ja 4 (vs := [.slice y_5.a y_5.l.length y_5.c, str (d.jt.drop n), iv (max 0 (d.js - ((n : Nat) : Int)))]) (cs' := [.slice y_5.a y_5.l.length y_5.c, str (d.jt.drop n), iv (max 0 (d.js - ((n : Nat) : Int)))]) rfl he_13 rfl rfl kd rfl rfl (lb rfl) rfl) ?_
      rintro _ _ rfl
      refine jE <| jB <| jN <| kM (pick_perm [3] (A := [Res.rows (rdsD y_5)]) (F := [Res.row (.slice a_21 ((readI ((linesOf d.jt).getD i [])).2.1.length) c_22) 48 2 (((readI ((linesOf d.jt).getD i [])).2.1).length) (((readI ((linesOf d.jt).getD i [])).2.1).flatMap encC), rS a_9 c_10 (linesOf d.jt), bk b_7 31 [.slice y_5.a y_5.l.length y_5.c, str (d.jt.drop n), iv (max 0 (d.js - ((n : Nat) : Int)))], bk b_4 31 [.slice y_5.a y_5.l.length y_5.c, str (d.jt.drop n), iv (max 0 (d.js - ((n : Nat) : Int)))], bk b_3 31 [.slice d.a d.l.length d.c, str d.jt, iv d.js]]) rfl).symm <| jV (.inl rfl) rfl (kA (jO 4 (vs := [.slice y_5.a y_5.l.length y_5.c, str (d.jt.drop n), iv (max 0 (d.js - ((n : Nat) : Int)))]) rfl he_13 ke kd rfl rfl) ⟨_, he_13⟩) (tS 1 _) ?_
      have hn : n = trimL d.dat := by unfold trimL; show n = trimN (mostOf d.dat) (linesOf d.jt); rw [← hmost]; first | (rw [trimN_step hlt, if_pos (by first | exact .inl (by assumption) | exact .inr (by assumption))] at hR; exact hR) | (rw [show (linesOf d.jt).drop i = [] from List.drop_of_length_le (by omega), trimN] at hR; exact hR)
      exact ⟨(⟨y_5.a, y_5.c, y_5.l, d.jt.drop n, max 0 (d.js - ((n : Nat) : Int))⟩ : DX), trim_dat (y := y_5) hy_6 h_8 hn hjr2.2.2, rfl, rfl⟩
    refine jR (cB (dF h_19)) <| jx <| jb <| jb <| jy <| jB <| jC <| jF <| jA (jQ fo31_1 he_12) <| jA (jQ fo29_0 rfl) ?_
    refine jK (jZ 4 (v := str d.jt) rfl rfl ki rfl) <| jA (jD (v := nv n) he_15) <| jA (PO.sliceSl (i := n) kg rfl rfl (by omega)) <| jA (jQ fo31_1 he_14) <| jA (jQ fo29_0 rfl) ?_
    refine jH rfl (ja 1 (vs := [str (d.jt.drop n)]) (cs' := [.slice y_5.a y_5.l.length y_5.c, str (d.jt.drop n), iv y_5.js]) rfl rfl rfl rfl kt rfl rfl (lb rfl) rfl) ?_
    rintro _ _ rfl
    refine jE <| jB <| jC <| jF <| jA (jQ fo31_1 he_12) <| jA (jQ fo29_1 rfl) <| jK (jZ 4 (v := iv d.js) rfl rfl kq rfl) <| jA (jD (v := nv n) he_15) <| jA (kZ (c := d.js - ((n : Nat) : Int)) rfl rfl (wr (by omega))) <| jA (PO.max2D (c := max 0 (d.js - ((n : Nat) : Int))) rfl rfl rfl) ?_
    refine jA (jQ fo31_1 he_14) <| jA (jQ fo29_1 rfl) ?_
    refine jH rfl (ja 1 (vs := [iv (max 0 (d.js - ((n : Nat) : Int)))]) (cs' := [.slice y_5.a y_5.l.length y_5.c, str (d.jt.drop n), iv (max 0 (d.js - ((n : Nat) : Int)))]) rfl rfl rfl rfl gA rfl rfl (lb rfl) rfl) ?_
    rintro _ _ rfl
    refine jE <| jB <| jC <| jF <| jK (jO 1 (vs := [.slice y_5.a y_5.l.length y_5.c, str (d.jt.drop n), iv (max 0 (d.js - ((n : Nat) : Int)))]) rfl he_14 ke kd rfl rfl) ?_
    refine jH rfl (ja 3 (vs := [.slice y_5.a y_5.l.length y_5.c, str (d.jt.drop n), iv (max 0 (d.js - ((n : Nat) : Int)))]) (cs' := [.slice y_5.a y_5.l.length y_5.c, str (d.jt.drop n), iv (max 0 (d.js - ((n : Nat) : Int)))]) rfl he_13 rfl rfl kd rfl rfl (lb rfl) rfl) ?_
    rintro _ _ rfl
    refine jE <| jB <| jN <| kM (pick_perm [2] (A := [Res.rows (rdsD y_5)]) (F := [rS a_9 c_10 (linesOf d.jt), bk b_7 31 [.slice y_5.a y_5.l.length y_5.c, str (d.jt.drop n), iv (max 0 (d.js - ((n : Nat) : Int)))], bk b_4 31 [.slice y_5.a y_5.l.length y_5.c, str (d.jt.drop n), iv (max 0 (d.js - ((n : Nat) : Int)))], bk b_3 31 [.slice d.a d.l.length d.c, str d.jt, iv d.js]]) rfl).symm <| jV (.inl rfl) rfl (kA (jO 3 (vs := [.slice y_5.a y_5.l.length y_5.c, str (d.jt.drop n), iv (max 0 (d.js - ((n : Nat) : Int)))]) rfl he_13 ke kd rfl rfl) ⟨_, he_13⟩) (tS 1 _) ?_
    have hn : n = trimL d.dat := by unfold trimL; show n = trimN (mostOf d.dat) (linesOf d.jt); rw [← hmost]; first | (rw [trimN_step hlt, if_pos (by first | exact .inl (by assumption) | exact .inr (by assumption))] at hR; exact hR) | (rw [show (linesOf d.jt).drop i = [] from List.drop_of_length_le (by omega), trimN] at hR; exact hR)
    exact ⟨(⟨y_5.a, y_5.c, y_5.l, d.jt.drop n, max 0 (d.js - ((n : Nat) : Int))⟩ : DX), trim_dat (y := y_5) hy_6 h_8 hn hjr2.2.2, rfl, rfl⟩
  refine jW (cB (cN h_8)) <| jC <| jF <| jK (jO 0 (vs := [.slice y_5.a y_5.l.length y_5.c, str y_5.jt, iv y_5.js]) rfl rfl ke kd rfl rfl) ?_
  refine jH rfl (ja 2 (vs := [.slice y_5.a y_5.l.length y_5.c, str y_5.jt, iv y_5.js]) (cs' := [.slice y_5.a y_5.l.length y_5.c, str y_5.jt, iv y_5.js]) rfl rfl rfl rfl kd rfl rfl (lb rfl) rfl) ?_
  rintro _ _ rfl
  refine jE <| jB <| jN <| jX <| kM (pick_perm [1] (A := [Res.rows (rdsD y_5)]) (F := [bk b_7 31 [.slice y_5.a y_5.l.length y_5.c, str y_5.jt, iv y_5.js], bk b_4 31 [.slice y_5.a y_5.l.length y_5.c, str y_5.jt, iv y_5.js], bk b_3 31 [.slice d.a d.l.length d.c, str d.jt, iv d.js]]) rfl).symm <| jV (.inl rfl) rfl (kA (jO 2 (vs := [.slice y_5.a y_5.l.length y_5.c, str y_5.jt, iv y_5.js]) rfl rfl ke kd rfl rfl) ⟨_, rfl⟩) (tS 1 _) ?_
  exact ⟨y_5, by rw [hy_6, DD.trim, if_neg (by rw [h_8]; exact Bool.false_ne_true)], rfl, rfl⟩

set_option maxRecDepth 4000 in
set_option maxHeartbeats 1000000 in
theorem Y_iClean (d : DX) (hz : d.dat.okz) (hl : d.dat.lim 1000000000) :
    Ct Tryz.prog 19 [.agg #[.slice d.a d.l.length d.c, str d.jt, .int .i64 d.js]] [] (fun w => SeesA w (rdsD d) ∧ HexOk w) (fun v A' => ∃ y : DX, y.dat = d.dat.clean ∧ v = .agg #[.slice y.a y.l.length y.c, str y.jt, .int .i64 y.js] ∧ A' = [.rows (rdsD y)]) := by
  refine Ct.introL Tryz.func19 rfl Tryz.ntmps19 (lb rfl) fun w0 hpre hlow => ?_
  have hs_1 : Sees w0 (.slice d.a d.l.length d.c) 3 d.l.length (d.l.flatMap encO) := (hpre.1).head
  have hi_2 : SeesA w0 (d.l.flatMap rdsO) := (hpre.1).tail
  have hjt := hz.k2
  have hdl : d.l.length ≤ 1000000000 := by have := hl.l0; simpa only [DX.dat, List.length_map] using this
  refine jC <| jF ?_
  refine jH rfl (kG (cs := [.slice d.a d.l.length d.c, str d.jt, iv d.js]) rfl rfl) ?_
  rintro _ _ ⟨b_3, rfl, rfl⟩
  refine jH rfl (jo (z := .agg #[.slice none 0 0, str [], iv 0]) (cs := [.slice none 0 0, str [], iv 0]) ko rfl) ?_
  rintro _ _ ⟨b_4, rfl, rfl⟩
  refine jE <| jB <| jC <| jF <| jK (jO 1 (vs := [.slice d.a d.l.length d.c, str d.jt, iv d.js]) rfl rfl ke kd rfl rfl) ?_
  refine jH rfl (jI [] Tryz.call62 rfl (Z_implDiskclone d hl) rfl (fun w hw => hw.seeOutA hpre.1 nMA)) ?_
  rintro _ _ ⟨_, ⟨y_5, hy_6, rfl, rfl⟩, rfl⟩
  refine jH rfl (jo (z := .agg #[.slice none 0 0, str [], iv 0]) (cs := [.slice none 0 0, str [], iv 0]) ko rfl) ?_
  rintro _ _ ⟨b_7, rfl, rfl⟩
  refine jH rfl (ja 0 (vs := [.slice y_5.a y_5.l.length y_5.c, str y_5.jt, iv y_5.js]) (cs' := [.slice y_5.a y_5.l.length y_5.c, str y_5.jt, iv y_5.js]) rfl rfl rfl rfl kd rfl rfl (lb rfl) rfl) ?_
  rintro _ _ rfl
  refine jE <| jB <| jC <| jC <| jF <| jK (jO 3 (vs := [.slice d.a d.l.length d.c, str d.jt, iv d.js]) rfl rfl ke kd rfl rfl) ?_
  refine jH rfl (jI [] Tryz.call47 rfl (Y_implDiskOk d hz (by omega)) rfl (fun w hw => hw.seeOutA hpre.1 nMA)) ?_
  rintro _ _ ⟨_, ⟨rfl, rfl⟩, rfl⟩
  refine jE <| jB ?_
  rcases Bool.eq_false_or_eq_true (diskOk d.dat) with h_8 | h_8
  · refine jW (cB h_8) <| jC ?_
    obtain ⟨q, hq, hql⟩ := diskOk_best h_8
    have hql : q < d.l.length := by simpa only [DX.dat, List.length_map] using hql
    have hjr := diskOk_jour h_8
    have hjr2 : ((d.jt.length : Nat) : Int) ≤ 20000 ∧ 0 ≤ d.js ∧ d.js ≤ ((d.jt.length : Nat) : Int) := by have h_ : jourOk d.jt d.js = true := hjr; simpa only [jourOk, within, Bool.and_eq_true, decide_eq_true_eq, and_assoc] using h_
    have hmost : (d.l.getD q o0).t.seq = mostOf d.dat := by rw [mostOf, hq, Int.toNat_natCast]; exact congrArg SD.seq getD_map'.symm
    have hmr := most_range h_8
    have hl2 := disk_two h_8
    have hrle := recsOf_le d.jt ((d.l.getD q o0).t.seq + 1)
    refine kJ [bk b_7 31 [.slice y_5.a y_5.l.length y_5.c, str y_5.jt, iv y_5.js], Res.rows (rdsD y_5), bk b_4 31 [.slice none 0 0, str [], iv 0], bk b_3 31 [.slice d.a d.l.length d.c, str d.jt, iv d.js]] 15 mixed (by simp) <| jL 0 rfl (jQ fo31_1 rfl) <| jL 1 rfl (jQ fo29_0 rfl) <| jw 2 rfl (jZ 3 (v := str d.jt) rfl rfl ki rfl) <| jL 3 rfl (jQ fo31_0 rfl) <| jw 4 rfl (jZ 3 (v := .slice d.a d.l.length d.c) rfl rfl ks rfl) <| jw 5 rfl (jO 3 (vs := [.slice d.a d.l.length d.c, str d.jt, iv d.js]) rfl rfl ke kd rfl rfl) <| jj (i := 6) ?_
    refine jz rfl rfl (jI [] Tryz.call48 rfl (Y_iBestN d hz (by omega) q hq) rfl (fun w hw => hw.seeOutA hpre.1 nMA)) ?_
    rintro _ _ ⟨_, ⟨rfl, rfl⟩, rfl⟩
    refine ⟨by simp, ?_⟩
    obtain ⟨hr_9, hr_9b, -⟩ := sees_some hs_1 (by omega)
    refine jL 7 rfl (jk (i := q) km kj hr_9 hr_9b rfl rfl (by omega)) <| jL 8 rfl (kL fo60_0 hr_9 rfl) ?_
    have hi_10 := SeesA.elem hi_2 o0 (show q < d.l.length by omega)
    have hs_11 := seesO hi_10
    refine jw 9 rfl (kY (v := iv ((d.l.getD q o0).t.seq)) hs_1 nM rfl kq (flat_at encO_len o0 d.l q 0 (by omega) (by decide))) <| jL 10 rfl (jc (c := ((d.l.getD q o0).t.seq) + 1) rfl rfl (wr (by omega))) <| jj (i := 11) ?_
    refine jz rfl rfl (jI [] Tryz.call70 rfl (Y_iRecs d.jt (((d.l.getD q o0).t.seq) + 1) (by omega)) rfl (fun w hw => hw.hex hlow hpre.2)) ?_
    rintro _ _ ⟨_, ⟨a_16, c_17, y_18, hy_19, rfl, rfl⟩, rfl⟩
    refine ⟨by simp, ?_⟩
    refine jL 12 rfl (jD (v := .tuple #[.slice a_16 y_18.length c_17, iv (((recsOf d.jt (((d.l.getD q o0).t.seq) + 1)).2 : Nat) : Int)]) rfl) <| jL 13 rfl (je (v := .slice a_16 y_18.length c_17) rfl rfl) <| jL 14 rfl (je (v := iv (((recsOf d.jt (((d.l.getD q o0).t.seq) + 1)).2 : Nat) : Int)) rfl rfl) <| jL 15 rfl (jG (v := .slice a_16 y_18.length c_17) rfl) <| jL 16 rfl (jG (v := iv (((recsOf d.jt (((d.l.getD q o0).t.seq) + 1)).2 : Nat) : Int)) rfl) <| kI (by kernel_rfl) <| jB <| jF <| jA (jQ fo31_1 rfl) <| jA (jQ fo29_0 rfl) ?_
    refine jK (jZ 4 (v := str d.jt) rfl rfl ki rfl) <| jA (jD (v := iv (((recsOf d.jt (((d.l.getD q o0).t.seq) + 1)).2 : Nat) : Int)) rfl) <| jA (PO.sliceSh (j := ((recsOf d.jt (((d.l.getD q o0).t.seq) + 1)).2)) kg rfl rfl (by omega)) <| jA (jD (v := iv (((recsOf d.jt (((d.l.getD q o0).t.seq) + 1)).2 : Nat) : Int)) rfl) <| jA (kW (ps := [(0, str (d.jt.take ((recsOf d.jt (((d.l.getD q o0).t.seq) + 1)).2))), (1, iv (((recsOf d.jt (((d.l.getD q o0).t.seq) + 1)).2 : Nat) : Int))]) (cs := [str (d.jt.take ((recsOf d.jt (((d.l.getD q o0).t.seq) + 1)).2)), iv (((recsOf d.jt (((d.l.getD q o0).t.seq) + 1)).2 : Nat) : Int)]) rfl (by kernel_rfl)) <| jA (jQ fo31_1 rfl) ?_
    refine jH rfl (ja 1 (vs := [str (d.jt.take ((recsOf d.jt (((d.l.getD q o0).t.seq) + 1)).2)), iv (((recsOf d.jt (((d.l.getD q o0).t.seq) + 1)).2 : Nat) : Int)]) (cs' := [.slice y_5.a y_5.l.length y_5.c, str (d.jt.take ((recsOf d.jt (((d.l.getD q o0).t.seq) + 1)).2)), iv (((recsOf d.jt (((d.l.getD q o0).t.seq) + 1)).2 : Nat) : Int)]) rfl rfl rfl rfl kl rfl rfl (lb rfl) rfl) ?_
    rintro _ _ rfl
    refine jE <| jB <| jC <| jF <| jK (jO 1 (vs := [.slice y_5.a y_5.l.length y_5.c, str (d.jt.take ((recsOf d.jt (((d.l.getD q o0).t.seq) + 1)).2)), iv (((recsOf d.jt (((d.l.getD q o0).t.seq) + 1)).2 : Nat) : Int)]) rfl rfl ke kd rfl rfl) ?_
    refine jH rfl (ja 3 (vs := [.slice y_5.a y_5.l.length y_5.c, str (d.jt.take ((recsOf d.jt (((d.l.getD q o0).t.seq) + 1)).2)), iv (((recsOf d.jt (((d.l.getD q o0).t.seq) + 1)).2 : Nat) : Int)]) (cs' := [.slice y_5.a y_5.l.length y_5.c, str (d.jt.take ((recsOf d.jt (((d.l.getD q o0).t.seq) + 1)).2)), iv (((recsOf d.jt (((d.l.getD q o0).t.seq) + 1)).2 : Nat) : Int)]) rfl rfl rfl rfl kd rfl rfl (lb rfl) rfl) ?_
    rintro _ _ rfl
    refine jE <| jB <| jN <| kM (pick_perm [2] (A := [Res.rows (rdsD y_5)]) (F := [Res.rows (rdsRS a_16 c_17 y_18), bk b_7 31 [.slice y_5.a y_5.l.length y_5.c, str (d.jt.take ((recsOf d.jt (((d.l.getD q o0).t.seq) + 1)).2)), iv (((recsOf d.jt (((d.l.getD q o0).t.seq) + 1)).2 : Nat) : Int)], bk b_4 31 [.slice y_5.a y_5.l.length y_5.c, str (d.jt.take ((recsOf d.jt (((d.l.getD q o0).t.seq) + 1)).2)), iv (((recsOf d.jt (((d.l.getD q o0).t.seq) + 1)).2 : Nat) : Int)], bk b_3 31 [.slice d.a d.l.length d.c, str d.jt, iv d.js]]) rfl).symm <| jV (.inl rfl) rfl (kA (jO 3 (vs := [.slice y_5.a y_5.l.length y_5.c, str (d.jt.take ((recsOf d.jt (((d.l.getD q o0).t.seq) + 1)).2)), iv (((recsOf d.jt (((d.l.getD q o0).t.seq) + 1)).2 : Nat) : Int)]) rfl rfl ke kd rfl rfl) ⟨_, rfl⟩) (tS 1 _) ?_
    exact ⟨(⟨y_5.a, y_5.c, y_5.l, d.jt.take ((recsOf d.jt (((d.l.getD q o0).t.seq) + 1)).2), (((recsOf d.jt (((d.l.getD q o0).t.seq) + 1)).2 : Nat) : Int)⟩ : DX), clean_dat (y := y_5) hy_6 h_8 (by rw [← recD_of hmost]), rfl, rfl⟩
  refine jR (cB h_8) <| jT <| jB <| jC <| jF <| jK (jO 0 (vs := [.slice y_5.a y_5.l.length y_5.c, str y_5.jt, iv y_5.js]) rfl rfl ke kd rfl rfl) ?_
  refine jH rfl (ja 2 (vs := [.slice y_5.a y_5.l.length y_5.c, str y_5.jt, iv y_5.js]) (cs' := [.slice y_5.a y_5.l.length y_5.c, str y_5.jt, iv y_5.js]) rfl rfl rfl rfl kd rfl rfl (lb rfl) rfl) ?_
  rintro _ _ rfl
  refine jE <| jB <| jN <| kM (pick_perm [1] (A := [Res.rows (rdsD y_5)]) (F := [bk b_7 31 [.slice y_5.a y_5.l.length y_5.c, str y_5.jt, iv y_5.js], bk b_4 31 [.slice y_5.a y_5.l.length y_5.c, str y_5.jt, iv y_5.js], bk b_3 31 [.slice d.a d.l.length d.c, str d.jt, iv d.js]]) rfl).symm <| jV (.inl rfl) rfl (kA (jO 2 (vs := [.slice y_5.a y_5.l.length y_5.c, str y_5.jt, iv y_5.js]) rfl rfl ke kd rfl rfl) ⟨_, rfl⟩) (tS 1 _) ?_
  exact ⟨y_5, by rw [hy_6, clean_not (by exact h_8)], rfl, rfl⟩

end Go.Proofs.YtjncpgcccgdeiaaGreatDoor

set_option linter.unusedSimpArgs false
set_option linter.unusedVariables false
set_option linter.unnecessarySimpa false
namespace Go.Proofs.YtjncpgcccgdeiaaGreatDoor
open Go Go.RowKit
attribute [local irreducible] JL JC JQ JO LO PO JA JX Ct

set_option maxRecDepth 4000 in
set_option maxHeartbeats 1000000 in
theorem Y_iRecov (d : DX) (hz : d.dat.okz) (hl : d.dat.lim 1000000000) :
    Ct Tryz.prog 33 [.agg #[.slice d.a d.l.length d.c, str d.jt, .int .i64 d.js]] [] (fun w => SeesA w (rdsD d) ∧ HexOk w) (fun v A' => ∃ a c, v = .tuple #[.slice a d.dat.recov.1.length c, .int .i64 d.dat.recov.2] ∧ A' = [.row (.slice a d.dat.recov.1.length c) 48 2 d.dat.recov.1.length (d.dat.recov.1.flatMap encC)]) := by
  refine Ct.introL Tryz.func33 rfl Tryz.ntmps33 (lb rfl) fun w0 hpre hlow => ?_
  have hs_1 : Sees w0 (.slice d.a d.l.length d.c) 3 d.l.length (d.l.flatMap encO) := (hpre.1).head
  have hi_2 : SeesA w0 (d.l.flatMap rdsO) := (hpre.1).tail
  have hjt := hz.k2
  have hdl : d.l.length ≤ 1000000000 := by have := hl.l0; simpa only [DX.dat, List.length_map] using this
  refine jC <| jF ?_
  refine jH rfl (kG (cs := [.slice d.a d.l.length d.c, str d.jt, iv d.js]) rfl rfl) ?_
  rintro _ _ ⟨b_3, rfl, rfl⟩
  refine jA (jG (v := .slice none 0 0) rfl) <| jA (jG (v := iv 0) rfl) <| jE <| jB <| jC <| jC <| jF <| jK (jO 0 (vs := [.slice d.a d.l.length d.c, str d.jt, iv d.js]) rfl rfl ke kd rfl rfl) ?_
  refine jH rfl (jI [] Tryz.call47 rfl (Y_implDiskOk d hz (by omega)) rfl (fun w hw => hw.seeOutA hpre.1 nMA)) ?_
  rintro _ _ ⟨_, ⟨rfl, rfl⟩, rfl⟩
  refine jA (jp rfl) <| jE <| jB ?_
  rcases Bool.eq_false_or_eq_true (diskOk d.dat) with h_4 | h_4
  · refine jR (cB (cN h_4)) <| jT <| jB <| jC ?_
    obtain ⟨q, hq, hql⟩ := diskOk_best h_4
    have hql : q < d.l.length := by simpa only [DX.dat, List.length_map] using hql
    have hjr := diskOk_jour h_4
    have hjr2 : ((d.jt.length : Nat) : Int) ≤ 20000 ∧ 0 ≤ d.js ∧ d.js ≤ ((d.jt.length : Nat) : Int) := by have h_ : jourOk d.jt d.js = true := hjr; simpa only [jourOk, within, Bool.and_eq_true, decide_eq_true_eq, and_assoc] using h_
    have hmost : (d.l.getD q o0).t.seq = mostOf d.dat := by rw [mostOf, hq, Int.toNat_natCast]; exact congrArg SD.seq getD_map'.symm
    have hmr := most_range h_4
    have hl2 := disk_two h_4
    have hbc : (d.l.getD q o0).t.cells = (d.dat.slots.getD (bestD d.dat).toNat o0.t).cells := by rw [hq, Int.toNat_natCast]; exact congrArg SD.cells getD_map'.symm
    have hsl : (d.l.getD q o0).t.cells.length ≤ 900 := by rw [hbc]; exact storeOk_len (best_ok h_4).2.2.2
    have hrc := recsOf_cells d.jt ((d.l.getD q o0).t.seq + 1)
    have hrle := recsOf_le d.jt ((d.l.getD q o0).t.seq + 1)
    refine kJ [bk b_3 31 [.slice d.a d.l.length d.c, str d.jt, iv d.js]] 7 mixed (by simp) <| jL 0 rfl (jQ fo31_0 rfl) <| jw 1 rfl (jZ 0 (v := .slice d.a d.l.length d.c) rfl rfl ks rfl) <| jw 2 rfl (jO 0 (vs := [.slice d.a d.l.length d.c, str d.jt, iv d.js]) rfl rfl ke kd rfl rfl) ?_
    refine JA.two (i := 3) (j := 6) (by kernel_rfl) ?_ ?_
    · refine jz rfl rfl (jI [] Tryz.call48 rfl (Y_iBestN d hz (by omega) q hq) rfl (fun w hw => hw.seeOutA hpre.1 nMA)) ?_
      rintro _ _ ⟨_, ⟨rfl, rfl⟩, rfl⟩
      refine ⟨by simp, ?_⟩
      obtain ⟨hr_6, hr_6b, -⟩ := sees_some hs_1 (by omega)
      refine jL 4 rfl (jk (i := q) km kj hr_6 hr_6b rfl rfl (by omega)) ?_
      have hi_7 := SeesA.elem hi_2 o0 (show q < d.l.length by omega)
      have hs_8 := seesO hi_7
      refine jw 5 rfl (kX (vs := [iv ((d.l.getD q o0).t.seq), .slice ((d.l.getD q o0).x.a0) ((d.l.getD q o0).t.cells.length) ((d.l.getD q o0).x.c0), .bool ((d.l.getD q o0).t.whole)]) hs_1 nM rfl gB kj (flat_take encO_len o0 d.l q (by omega)) rfl (by decide)) <| jj (i := 6) ?_
      refine jz rfl rfl (jo (z := .agg #[iv 0, .slice none 0 0, .bool false]) (cs := [iv 0, .slice none 0 0, .bool false]) gD rfl) ?_
      rintro _ _ ⟨b_10, rfl, rfl⟩
      refine ⟨by simp, ?_⟩
      refine jj (i := 7) ?_
      refine JX.ls rfl (ja 0 (vs := [iv ((d.l.getD q o0).t.seq), .slice ((d.l.getD q o0).x.a0) ((d.l.getD q o0).t.cells.length) ((d.l.getD q o0).x.c0), .bool ((d.l.getD q o0).t.whole)]) (cs' := [iv ((d.l.getD q o0).t.seq), .slice ((d.l.getD q o0).x.a0) ((d.l.getD q o0).t.cells.length) ((d.l.getD q o0).x.c0), .bool ((d.l.getD q o0).t.whole)]) rfl rfl rfl rfl kj rfl rfl (lb rfl) rfl) ?_
      rintro _ _ rfl
      refine jB <| jC <| jF <| jA (jQ fo31_1 rfl) <| jA (jQ fo29_0 rfl) <| jK (jZ 1 (v := str d.jt) rfl rfl ki rfl) <| jA (jQ fo60_0 rfl) <| jK (jZ 0 (v := iv ((d.l.getD q o0).t.seq)) rfl rfl kq rfl) <| jA (jc (c := ((d.l.getD q o0).t.seq) + 1) rfl rfl (wr (by omega))) ?_
      refine jH rfl (jI [] Tryz.call70 rfl (Y_iRecs d.jt (((d.l.getD q o0).t.seq) + 1) (by omega)) rfl (fun w hw => hw.hex hlow hpre.2)) ?_
      rintro _ _ ⟨_, ⟨a_11, c_12, y_13, hy_14, rfl, rfl⟩, rfl⟩
      refine jA (jD (v := .tuple #[.slice a_11 y_13.length c_12, iv (((recsOf d.jt (((d.l.getD q o0).t.seq) + 1)).2 : Nat) : Int)]) rfl) <| jA (je (v := .slice a_11 y_13.length c_12) rfl rfl) <| jA (je (v := iv (((recsOf d.jt (((d.l.getD q o0).t.seq) + 1)).2 : Nat) : Int)) rfl rfl) <| jA (jG (v := .slice a_11 y_13.length c_12) rfl) <| jA (jG (v := iv (((recsOf d.jt (((d.l.getD q o0).t.seq) + 1)).2 : Nat) : Int)) rfl) <| jE <| jB <| jC <| jF <| jA (jQ fo60_1 rfl) ?_
      refine jK (jZ 1 (v := .slice ((d.l.getD q o0).x.a0) ((d.l.getD q o0).t.cells.length) ((d.l.getD q o0).x.c0)) rfl rfl kz rfl) ?_
      refine jH rfl (jI [] Tryz.call74 rfl (C_cloneC (d.l.getD q o0).x.a0 ((d.l.getD q o0).x.c0) ((d.l.getD q o0).t.cells) (by omega)) rfl (fun w hw => hw.seeOut_ hs_8 nM)) ?_
      rintro _ _ ⟨_, ⟨a_15, c_16, rfl, rfl⟩, rfl⟩
      refine jA (jG (v := .slice a_15 (((d.l.getD q o0).t.cells).length) c_16) rfl) <| jE <| jB <| jC <| jC ?_
      have hys : y_13.map cellsR = (recsOf d.jt ((d.l.getD q o0).t.seq + 1)).1 := hy_14
      have hyc : sumC (y_13.map cellsR) ≤ 20000 := by rw [hys]; omega
      have hyn : y_13.length ≤ 20000 := by have h_ := congrArg List.length hys; rw [List.length_map] at h_; have h2_ := recsOf_count d.jt ((d.l.getD q o0).t.seq + 1); omega
      refine jF <| jA (jD (v := .slice a_11 y_13.length c_12) rfl) <| jA (jr kx rfl) <| jA (jD (v := iv 0) rfl) <| jE <| jB <| jf <| kT (L' := [Res.row (.slice a_11 y_13.length c_12) 49 1 y_13.length (y_13.flatMap encR), Res.rows (y_13.flatMap rdsR), rC a_15 c_16 ((d.l.getD q o0).t.cells), bk b_10 60 [iv ((d.l.getD q o0).t.seq), .slice ((d.l.getD q o0).x.a0) ((d.l.getD q o0).t.cells.length) ((d.l.getD q o0).x.c0), .bool ((d.l.getD q o0).t.whole)], bk b_3 31 [.slice d.a d.l.length d.c, str d.jt, iv d.js]]) (fun w hw => hw.headR (r := ⟨.slice a_11 y_13.length c_12, 49, 1, y_13.length, y_13.flatMap encR⟩) (A := y_13.flatMap rdsR) 1 rfl) <| kT (L' := [rC a_15 c_16 ((d.l.getD q o0).t.cells), Res.row (.slice a_11 y_13.length c_12) 49 1 y_13.length (y_13.flatMap encR), Res.rows (y_13.flatMap rdsR), bk b_10 60 [iv ((d.l.getD q o0).t.seq), .slice ((d.l.getD q o0).x.a0) ((d.l.getD q o0).t.cells.length) ((d.l.getD q o0).x.c0), .bool ((d.l.getD q o0).t.whole)], bk b_3 31 [.slice d.a d.l.length d.c, str d.jt, iv d.js]]) (fun w hw => hw.perm (pick_perm [2] (A := [rC a_15 c_16 ((d.l.getD q o0).t.cells)]) (F := [Res.row (.slice a_11 y_13.length c_12) 49 1 y_13.length (y_13.flatMap encR), Res.rows (y_13.flatMap rdsR), bk b_10 60 [iv ((d.l.getD q o0).t.seq), .slice ((d.l.getD q o0).x.a0) ((d.l.getD q o0).t.cells.length) ((d.l.getD q o0).x.c0), .bool ((d.l.getD q o0).t.whole)], bk b_3 31 [.slice d.a d.l.length d.c, str d.jt, iv d.js]]) rfl).symm) <| kD (fun k_ e_ L_ => ∃ j : Nat, ∃ sa : Option Addr, ∃ sc : Nat, ∃ s_ : List Cell, (j ≤ y_13.length) ∧ (s_.length + sumC ((y_13.map cellsR).drop j) ≤ 30000) ∧ (applyAll s_ ((y_13.map cellsR).drop j) = applyAll (d.l.getD q o0).t.cells (y_13.map cellsR)) ∧ e_ 2 = .slice none 0 0 ∧ e_ 3 = iv 0 ∧ e_ 4 = .pointer (some ⟨b_10, 0, none⟩) ∧ e_ 5 = .slice a_11 y_13.length c_12 ∧ e_ 7 = .slice sa s_.length sc ∧ e_ 34 = .slice a_11 y_13.length c_12 ∧ e_ 35 = nv y_13.length ∧ e_ 36 = nv j ∧ L_ = [rC sa sc s_, Res.row (.slice a_11 y_13.length c_12) 49 1 y_13.length (y_13.flatMap encR), Res.rows (y_13.flatMap rdsR), bk b_10 60 [iv ((d.l.getD q o0).t.seq), .slice ((d.l.getD q o0).x.a0) ((d.l.getD q o0).t.cells.length) ((d.l.getD q o0).x.c0), .bool ((d.l.getD q o0).t.whole)], bk b_3 31 [.slice d.a d.l.length d.c, str d.jt, iv d.js]] ∧ k_ = y_13.length - j) _ ⟨0, a_15, c_16, (d.l.getD q o0).t.cells, by omega, (by rw [List.drop_zero]; omega), rfl, rfl, rfl, rfl, rfl, rfl, rfl, rfl, rfl, rfl, rfl⟩ ?_
      rintro _ e_17 _ ⟨j, sa, sc, s_, hj, hb, hR, he_18, he_19, he_20, he_21, he_22, he_23, he_24, he_25, rfl, rfl⟩
      refine jC <| jF <| jA (jl he_25 he_24) <| jE <| jB <| jC ?_
      by_cases h_26 : ((j : Nat) : Int) < ((y_13.length : Nat) : Int)
      · have hlt : j < y_13.length := by omega
        have hsc := sumC_step hlt
        refine jW (cB (dT h_26)) <| jT <| jB <| jC <| jf <| jC <| jF ?_
        refine kN fun hst => ?_
        obtain ⟨hr_27, hr_27b, -⟩ := row_some 1 rfl (by omega) hst
        refine jA (jk (i := j) kx gM hr_27 hr_27b he_23 he_25 (by omega)) <| jK (ka 1 (v := .slice ((y_13.getD j r0).x.a0) ((y_13.getD j r0).t.cells.length) ((y_13.getD j r0).x.c0)) rfl rfl kz (flat_at encR_len r0 y_13 j 0 (by omega) (by decide))) <| jA (jG (v := .slice ((y_13.getD j r0).x.a0) ((y_13.getD j r0).t.cells.length) ((y_13.getD j r0).x.c0)) rfl) <| jE <| jB <| jC <| kT (L' := [Res.rows ((y_13.take j).flatMap rdsR), Res.rows (rdsR (y_13.getD j r0)), Res.rows ((y_13.drop (j + 1)).flatMap rdsR), rC sa sc s_, Res.row (.slice a_11 y_13.length c_12) 49 1 y_13.length (y_13.flatMap encR), bk b_10 60 [iv ((d.l.getD q o0).t.seq), .slice ((d.l.getD q o0).x.a0) ((d.l.getD q o0).t.cells.length) ((d.l.getD q o0).x.c0), .bool ((d.l.getD q o0).t.whole)], bk b_3 31 [.slice d.a d.l.length d.c, str d.jt, iv d.js]]) (fun w hw => hw.splitR 2 rfl (flatMap_at r0 hlt)) <| kT (L' := [Res.row (.slice ((y_13.getD j r0).x.a0) ((y_13.getD j r0).t.cells.length) ((y_13.getD j r0).x.c0)) 48 2 (((y_13.getD j r0).t.cells).length) (((y_13.getD j r0).t.cells).flatMap encC), Res.rows ((y_13.take j).flatMap rdsR), Res.rows ((y_13.drop (j + 1)).flatMap rdsR), rC sa sc s_, Res.row (.slice a_11 y_13.length c_12) 49 1 y_13.length (y_13.flatMap encR), bk b_10 60 [iv ((d.l.getD q o0).t.seq), .slice ((d.l.getD q o0).x.a0) ((d.l.getD q o0).t.cells.length) ((d.l.getD q o0).x.c0), .bool ((d.l.getD q o0).t.whole)], bk b_3 31 [.slice d.a d.l.length d.c, str d.jt, iv d.js]]) (fun w hw => hw.openR 1 rfl) <| jF <| jA (jD (v := .slice ((y_13.getD j r0).x.a0) ((y_13.getD j r0).t.cells.length) ((y_13.getD j r0).x.c0)) rfl) ?_
        refine jA (jr kf rfl) <| jA (jD (v := iv 0) rfl) <| jE <| jB <| jf <| kT (L' := [rC sa sc s_, Res.row (.slice ((y_13.getD j r0).x.a0) ((y_13.getD j r0).t.cells.length) ((y_13.getD j r0).x.c0)) 48 2 (((y_13.getD j r0).t.cells).length) (((y_13.getD j r0).t.cells).flatMap encC), Res.rows ((y_13.take j).flatMap rdsR), Res.rows ((y_13.drop (j + 1)).flatMap rdsR), Res.row (.slice a_11 y_13.length c_12) 49 1 y_13.length (y_13.flatMap encR), bk b_10 60 [iv ((d.l.getD q o0).t.seq), .slice ((d.l.getD q o0).x.a0) ((d.l.getD q o0).t.cells.length) ((d.l.getD q o0).x.c0), .bool ((d.l.getD q o0).t.whole)], bk b_3 31 [.slice d.a d.l.length d.c, str d.jt, iv d.js]]) (fun w hw => hw.perm (pick_perm [3] (A := [rC sa sc s_]) (F := [Res.row (.slice ((y_13.getD j r0).x.a0) ((y_13.getD j r0).t.cells.length) ((y_13.getD j r0).x.c0)) 48 2 (((y_13.getD j r0).t.cells).length) (((y_13.getD j r0).t.cells).flatMap encC), Res.rows ((y_13.take j).flatMap rdsR), Res.rows ((y_13.drop (j + 1)).flatMap rdsR), Res.row (.slice a_11 y_13.length c_12) 49 1 y_13.length (y_13.flatMap encR), bk b_10 60 [iv ((d.l.getD q o0).t.seq), .slice ((d.l.getD q o0).x.a0) ((d.l.getD q o0).t.cells.length) ((d.l.getD q o0).x.c0), .bool ((d.l.getD q o0).t.whole)], bk b_3 31 [.slice d.a d.l.length d.c, str d.jt, iv d.js]]) rfl).symm) <| kD (fun k_ e_ L_ => ∃ i : Nat, ∃ qa : Option Addr, ∃ qc : Nat, ∃ q_ : List Cell, (i ≤ (y_13.getD j r0).t.cells.length) ∧ (q_.length + ((y_13.getD j r0).t.cells.length - i) ≤ s_.length + (y_13.getD j r0).t.cells.length) ∧ (applyR q_ ((y_13.getD j r0).t.cells.drop i) = applyR s_ (y_13.getD j r0).t.cells) ∧ e_ 2 = .slice none 0 0 ∧ e_ 3 = iv 0 ∧ e_ 4 = .pointer (some ⟨b_10, 0, none⟩) ∧ e_ 5 = .slice a_11 y_13.length c_12 ∧ e_ 7 = .slice qa q_.length qc ∧ e_ 34 = .slice a_11 y_13.length c_12 ∧ e_ 35 = nv y_13.length ∧ e_ 36 = nv j ∧ e_ 40 = .slice ((y_13.getD j r0).x.a0) ((y_13.getD j r0).t.cells.length) ((y_13.getD j r0).x.c0) ∧ e_ 41 = iv (((y_13.getD j r0).t.cells.length : Nat) : Int) ∧ e_ 42 = nv i ∧ L_ = [rC qa qc q_, Res.row (.slice ((y_13.getD j r0).x.a0) ((y_13.getD j r0).t.cells.length) ((y_13.getD j r0).x.c0)) 48 2 (((y_13.getD j r0).t.cells).length) (((y_13.getD j r0).t.cells).flatMap encC), Res.rows ((y_13.take j).flatMap rdsR), Res.rows ((y_13.drop (j + 1)).flatMap rdsR), Res.row (.slice a_11 y_13.length c_12) 49 1 y_13.length (y_13.flatMap encR), bk b_10 60 [iv ((d.l.getD q o0).t.seq), .slice ((d.l.getD q o0).x.a0) ((d.l.getD q o0).t.cells.length) ((d.l.getD q o0).x.c0), .bool ((d.l.getD q o0).t.whole)], bk b_3 31 [.slice d.a d.l.length d.c, str d.jt, iv d.js]] ∧ k_ = (y_13.getD j r0).t.cells.length - i) _ ⟨0, sa, sc, s_, by omega, by omega, rfl, he_18, he_19, he_20, he_21, he_22, he_23, he_24, he_25, rfl, rfl, rfl, rfl, rfl⟩ ?_
        rintro _ e_28 _ ⟨i, qa, qc, q_, hi, hb2, hR2, he_29, he_30, he_31, he_32, he_33, he_34, he_35, he_36, he_37, he_38, he_39, rfl, rfl⟩
        refine jC <| jF <| jA (jl he_39 he_38) <| jE <| jB <| jC ?_
        by_cases h_40 : ((i : Nat) : Int) < (((y_13.getD j r0).t.cells.length : Nat) : Int)
        · have hlt2 : i < (y_13.getD j r0).t.cells.length := by omega
          have hkl := (rec_key hys hlt hlt2).1
          have hpl := putKey_one q_ ((y_13.getD j r0).t.cells.getD i c0).1 ((y_13.getD j r0).t.cells.getD i c0).2
          refine jW (cB (dT h_40)) <| jT <| jB <| jC <| jf <| jC <| jF ?_
          refine kN fun hst => ?_
          obtain ⟨hr_41, hr_41b, -⟩ := row_some 1 rfl (by omega) hst
          refine jA (jk (i := i) kf kh hr_41 hr_41b he_37 he_39 (by omega)) <| jK (LO.loadRK 1 (vs := [str ((((y_13.getD j r0).t.cells).getD i c0).1), str ((((y_13.getD j r0).t.cells).getD i c0).2)]) rfl rfl gG kh (atC (by omega)) rfl (by decide)) ?_
          refine jH rfl (jo (z := .agg #[str [], str []]) (cs := [str [], str []]) kw rfl) ?_
          rintro _ _ ⟨b_42, rfl, rfl⟩
          refine jH rfl (ja 0 (vs := [str ((((y_13.getD j r0).t.cells).getD i c0).1), str ((((y_13.getD j r0).t.cells).getD i c0).2)]) (cs' := [str ((((y_13.getD j r0).t.cells).getD i c0).1), str ((((y_13.getD j r0).t.cells).getD i c0).2)]) rfl rfl rfl rfl kh rfl rfl (lb rfl) rfl) ?_
          rintro _ _ rfl
          refine jE <| jB <| jF <| jA (jD (v := .slice qa q_.length qc) he_33) <| jA (jQ fo48_0 rfl) <| jK (jZ 0 (v := str ((((y_13.getD j r0).t.cells).getD i c0).1)) rfl rfl ki rfl) <| jA (jQ fo48_1 rfl) <| jK (jZ 0 (v := str ((((y_13.getD j r0).t.cells).getD i c0).2)) rfl rfl ki rfl) ?_
          refine jH rfl (jI [1] Tryz.call86 rfl (C_put qa qc q_ ((((y_13.getD j r0).t.cells).getD i c0).1) ((((y_13.getD j r0).t.cells).getD i c0).2) (by omega) (by omega)) rfl (fun _ _ => trivial)) ?_
          rintro _ _ ⟨_, ⟨a_43, c_44, rfl, rfl⟩, rfl⟩
          refine jA (jG (v := .slice a_43 ((putKey q_ ((((y_13.getD j r0).t.cells).getD i c0).1) ((((y_13.getD j r0).t.cells).getD i c0).2)).length) c_44) rfl) <| jE <| jm <| jB <| jF <| jA (jc (c := ((i + 1 : Nat) : Int)) he_39 rfl (wr (by omega))) <| jA (jD (v := iv ((i + 1 : Nat) : Int)) rfl) <| jE <| kB [0, 1, 1, 1, 1, 1, 1] (A := [rC a_43 c_44 (putKey q_ ((((y_13.getD j r0).t.cells).getD i c0).1) ((((y_13.getD j r0).t.cells).getD i c0).2)), Res.row (.slice ((y_13.getD j r0).x.a0) ((y_13.getD j r0).t.cells.length) ((y_13.getD j r0).x.c0)) 48 2 (((y_13.getD j r0).t.cells).length) (((y_13.getD j r0).t.cells).flatMap encC), Res.rows ((y_13.take j).flatMap rdsR), Res.rows ((y_13.drop (j + 1)).flatMap rdsR), Res.row (.slice a_11 y_13.length c_12) 49 1 y_13.length (y_13.flatMap encR), bk b_10 60 [iv ((d.l.getD q o0).t.seq), .slice ((d.l.getD q o0).x.a0) ((d.l.getD q o0).t.cells.length) ((d.l.getD q o0).x.c0), .bool ((d.l.getD q o0).t.whole)], bk b_3 31 [.slice d.a d.l.length d.c, str d.jt, iv d.js]]) rfl ?_
          refine jq ((y_13.getD j r0).t.cells.length - (i + 1)) (by omega) ⟨i + 1, a_43, c_44, (putKey q_ ((((y_13.getD j r0).t.cells).getD i c0).1) ((((y_13.getD j r0).t.cells).getD i c0).2)), by omega, by omega, (by rw [applyR_step hlt2] at hR2; exact hR2), he_29, he_30, he_31, he_32, rfl, he_34, he_35, he_36, he_37, he_38, rfl, rfl, rfl⟩
        refine jR (cB (dF h_40)) <| jx <| jb <| jb <| jy <| jm <| jB <| jF <| jA (jc (c := ((j + 1 : Nat) : Int)) he_36 rfl (wr (by omega))) <| jA (jD (v := iv ((j + 1 : Nat) : Int)) rfl) ?_
        refine jE <| ju (L' := [Res.rows (rdsR (y_13.getD j r0)), rC qa qc q_, Res.rows ((y_13.take j).flatMap rdsR), Res.rows ((y_13.drop (j + 1)).flatMap rdsR), Res.row (.slice a_11 y_13.length c_12) 49 1 y_13.length (y_13.flatMap encR), bk b_10 60 [iv ((d.l.getD q o0).t.seq), .slice ((d.l.getD q o0).x.a0) ((d.l.getD q o0).t.cells.length) ((d.l.getD q o0).x.c0), .bool ((d.l.getD q o0).t.whole)], bk b_3 31 [.slice d.a d.l.length d.c, str d.jt, iv d.js]]) (fun w hw => hw.closeR (A := rdsR (y_13.getD j r0)) [1] rfl) <| ju (L' := [Res.rows (y_13.flatMap rdsR), rC qa qc q_, Res.row (.slice a_11 y_13.length c_12) 49 1 y_13.length (y_13.flatMap encR), bk b_10 60 [iv ((d.l.getD q o0).t.seq), .slice ((d.l.getD q o0).x.a0) ((d.l.getD q o0).t.cells.length) ((d.l.getD q o0).x.c0), .bool ((d.l.getD q o0).t.whole)], bk b_3 31 [.slice d.a d.l.length d.c, str d.jt, iv d.js]]) (fun w hw => hw.joinR [2, 0, 1] rfl (flatMap_at r0 hlt)) <| kB [1, 1, 0, 0, 0] (A := [rC qa qc q_, Res.row (.slice a_11 y_13.length c_12) 49 1 y_13.length (y_13.flatMap encR), Res.rows (y_13.flatMap rdsR), bk b_10 60 [iv ((d.l.getD q o0).t.seq), .slice ((d.l.getD q o0).x.a0) ((d.l.getD q o0).t.cells.length) ((d.l.getD q o0).x.c0), .bool ((d.l.getD q o0).t.whole)], bk b_3 31 [.slice d.a d.l.length d.c, str d.jt, iv d.js]]) rfl ?_
        refine jq (y_13.length - (j + 1)) (by omega) ⟨j + 1, qa, qc, q_, by omega, by omega, (by rw [applyAll_step hlt] at hR; rw [show (y_13.getD j r0).t.cells.drop i = [] from List.drop_of_length_le (by omega)] at hR2; rw [← hR2] at hR; exact hR), he_29, he_30, he_31, he_32, he_33, he_34, he_35, rfl, rfl, rfl⟩
      refine jR (cB (dF h_26)) <| jx <| jb <| jb <| jy <| jB <| jC <| kJ [rC sa sc s_, Res.row (.slice a_11 y_13.length c_12) 49 1 y_13.length (y_13.flatMap encR), Res.rows (y_13.flatMap rdsR), bk b_10 60 [iv ((d.l.getD q o0).t.seq), .slice ((d.l.getD q o0).x.a0) ((d.l.getD q o0).t.cells.length) ((d.l.getD q o0).x.c0), .bool ((d.l.getD q o0).t.whole)], bk b_3 31 [.slice d.a d.l.length d.c, str d.jt, iv d.js]] 0 mixed (by simp) <| jL 0 rfl (jD (v := .slice sa s_.length sc) he_22) <| jL 1 rfl (jQ fo60_0 he_20) ?_
      refine jL 3 rfl (jD (v := .slice a_11 y_13.length c_12) he_21) <| jL 4 rfl (jr kx rfl) <| jL 6 rfl (jG (v := .slice sa s_.length sc) rfl) <| jj (i := 2) ?_
      refine JX.lt rfl (jP (jZ 3 (v := iv ((d.l.getD q o0).t.seq)) rfl rfl kq rfl)) ?_
      rintro _ _ ⟨rfl, rfl⟩
      refine jL 5 rfl (jc (c := ((d.l.getD q o0).t.seq) + ((y_13.length : Nat) : Int)) rfl rfl (wr (by omega))) <| jL 7 rfl (jG (v := iv (((d.l.getD q o0).t.seq) + ((y_13.length : Nat) : Int))) rfl) <| kI (by kernel_rfl) <| jB <| jN <| kC (.inl rfl) rfl (jJ (v := .slice sa s_.length sc) rfl) (jJ (v := iv (((d.l.getD q o0).t.seq) + ((y_13.length : Nat) : Int))) rfl) (tS 1 _) ?_
      have hf : s_ = applyAll (d.l.getD q o0).t.cells (y_13.map cellsR) := by rw [show (y_13.map cellsR).drop j = [] from List.drop_of_length_le (by rw [List.length_map]; omega)] at hR; exact hR
      have he := recov_eq h_4 hbc hmost hys hf (List.length_map _)
      exact ⟨sa, sc, by rw [he] <;> rfl, by rw [he] <;> rfl⟩
    refine jz rfl rfl (jo (z := .agg #[iv 0, .slice none 0 0, .bool false]) (cs := [iv 0, .slice none 0 0, .bool false]) gD rfl) ?_
    rintro _ _ ⟨b_45, rfl, rfl⟩
    refine ⟨by simp, ?_⟩
    refine jj (i := 3) ?_
    refine jz rfl rfl (jI [] Tryz.call48 rfl (Y_iBestN d hz (by omega) q hq) rfl (fun w hw => hw.seeOutA hpre.1 nMA)) ?_
    rintro _ _ ⟨_, ⟨rfl, rfl⟩, rfl⟩
    refine ⟨by simp, ?_⟩
    obtain ⟨hr_46, hr_46b, -⟩ := sees_some hs_1 (by omega)
    refine jL 4 rfl (jk (i := q) km kj hr_46 hr_46b rfl rfl (by omega)) ?_
    have hi_47 := SeesA.elem hi_2 o0 (show q < d.l.length by omega)
    have hs_48 := seesO hi_47
    refine jw 5 rfl (kX (vs := [iv ((d.l.getD q o0).t.seq), .slice ((d.l.getD q o0).x.a0) ((d.l.getD q o0).t.cells.length) ((d.l.getD q o0).x.c0), .bool ((d.l.getD q o0).t.whole)]) hs_1 nM rfl gB kj (flat_take encO_len o0 d.l q (by omega)) rfl (by decide)) <| jj (i := 7) ?_
    refine JX.ls rfl (ja 0 (vs := [iv ((d.l.getD q o0).t.seq), .slice ((d.l.getD q o0).x.a0) ((d.l.getD q o0).t.cells.length) ((d.l.getD q o0).x.c0), .bool ((d.l.getD q o0).t.whole)]) (cs' := [iv ((d.l.getD q o0).t.seq), .slice ((d.l.getD q o0).x.a0) ((d.l.getD q o0).t.cells.length) ((d.l.getD q o0).x.c0), .bool ((d.l.getD q o0).t.whole)]) rfl rfl rfl rfl kj rfl rfl (lb rfl) rfl) ?_
    rintro _ _ rfl
    refine jB <| jC <| jF <| jA (jQ fo31_1 rfl) <| jA (jQ fo29_0 rfl) <| jK (jZ 1 (v := str d.jt) rfl rfl ki rfl) <| jA (jQ fo60_0 rfl) <| jK (jZ 0 (v := iv ((d.l.getD q o0).t.seq)) rfl rfl kq rfl) <| jA (jc (c := ((d.l.getD q o0).t.seq) + 1) rfl rfl (wr (by omega))) ?_
    refine jH rfl (jI [] Tryz.call70 rfl (Y_iRecs d.jt (((d.l.getD q o0).t.seq) + 1) (by omega)) rfl (fun w hw => hw.hex hlow hpre.2)) ?_
    rintro _ _ ⟨_, ⟨a_49, c_50, y_51, hy_52, rfl, rfl⟩, rfl⟩
    refine jA (jD (v := .tuple #[.slice a_49 y_51.length c_50, iv (((recsOf d.jt (((d.l.getD q o0).t.seq) + 1)).2 : Nat) : Int)]) rfl) <| jA (je (v := .slice a_49 y_51.length c_50) rfl rfl) <| jA (je (v := iv (((recsOf d.jt (((d.l.getD q o0).t.seq) + 1)).2 : Nat) : Int)) rfl rfl) <| jA (jG (v := .slice a_49 y_51.length c_50) rfl) <| jA (jG (v := iv (((recsOf d.jt (((d.l.getD q o0).t.seq) + 1)).2 : Nat) : Int)) rfl) <| jE <| jB <| jC <| jF <| jA (jQ fo60_1 rfl) ?_
    refine jK (jZ 1 (v := .slice ((d.l.getD q o0).x.a0) ((d.l.getD q o0).t.cells.length) ((d.l.getD q o0).x.c0)) rfl rfl kz rfl) ?_
    refine jH rfl (jI [] Tryz.call74 rfl (C_cloneC (d.l.getD q o0).x.a0 ((d.l.getD q o0).x.c0) ((d.l.getD q o0).t.cells) (by omega)) rfl (fun w hw => hw.seeOut_ hs_48 nM)) ?_
    rintro _ _ ⟨_, ⟨a_53, c_54, rfl, rfl⟩, rfl⟩
    refine jA (jG (v := .slice a_53 (((d.l.getD q o0).t.cells).length) c_54) rfl) <| jE <| jB <| jC <| jC ?_
    have hys : y_51.map cellsR = (recsOf d.jt ((d.l.getD q o0).t.seq + 1)).1 := hy_52
    have hyc : sumC (y_51.map cellsR) ≤ 20000 := by rw [hys]; omega
    have hyn : y_51.length ≤ 20000 := by have h_ := congrArg List.length hys; rw [List.length_map] at h_; have h2_ := recsOf_count d.jt ((d.l.getD q o0).t.seq + 1); omega
    refine jF <| jA (jD (v := .slice a_49 y_51.length c_50) rfl) <| jA (jr kx rfl) <| jA (jD (v := iv 0) rfl) <| jE <| jB <| jf <| kT (L' := [Res.row (.slice a_49 y_51.length c_50) 49 1 y_51.length (y_51.flatMap encR), Res.rows (y_51.flatMap rdsR), rC a_53 c_54 ((d.l.getD q o0).t.cells), bk b_45 60 [iv ((d.l.getD q o0).t.seq), .slice ((d.l.getD q o0).x.a0) ((d.l.getD q o0).t.cells.length) ((d.l.getD q o0).x.c0), .bool ((d.l.getD q o0).t.whole)], bk b_3 31 [.slice d.a d.l.length d.c, str d.jt, iv d.js]]) (fun w hw => hw.headR (r := ⟨.slice a_49 y_51.length c_50, 49, 1, y_51.length, y_51.flatMap encR⟩) (A := y_51.flatMap rdsR) 1 rfl) <| kT (L' := [rC a_53 c_54 ((d.l.getD q o0).t.cells), Res.row (.slice a_49 y_51.length c_50) 49 1 y_51.length (y_51.flatMap encR), Res.rows (y_51.flatMap rdsR), bk b_45 60 [iv ((d.l.getD q o0).t.seq), .slice ((d.l.getD q o0).x.a0) ((d.l.getD q o0).t.cells.length) ((d.l.getD q o0).x.c0), .bool ((d.l.getD q o0).t.whole)], bk b_3 31 [.slice d.a d.l.length d.c, str d.jt, iv d.js]]) (fun w hw => hw.perm (pick_perm [2] (A := [rC a_53 c_54 ((d.l.getD q o0).t.cells)]) (F := [Res.row (.slice a_49 y_51.length c_50) 49 1 y_51.length (y_51.flatMap encR), Res.rows (y_51.flatMap rdsR), bk b_45 60 [iv ((d.l.getD q o0).t.seq), .slice ((d.l.getD q o0).x.a0) ((d.l.getD q o0).t.cells.length) ((d.l.getD q o0).x.c0), .bool ((d.l.getD q o0).t.whole)], bk b_3 31 [.slice d.a d.l.length d.c, str d.jt, iv d.js]]) rfl).symm) <| kD (fun k_ e_ L_ => ∃ j : Nat, ∃ sa : Option Addr, ∃ sc : Nat, ∃ s_ : List Cell, (j ≤ y_51.length) ∧ (s_.length + sumC ((y_51.map cellsR).drop j) ≤ 30000) ∧ (applyAll s_ ((y_51.map cellsR).drop j) = applyAll (d.l.getD q o0).t.cells (y_51.map cellsR)) ∧ e_ 2 = .slice none 0 0 ∧ e_ 3 = iv 0 ∧ e_ 4 = .pointer (some ⟨b_45, 0, none⟩) ∧ e_ 5 = .slice a_49 y_51.length c_50 ∧ e_ 7 = .slice sa s_.length sc ∧ e_ 34 = .slice a_49 y_51.length c_50 ∧ e_ 35 = nv y_51.length ∧ e_ 36 = nv j ∧ L_ = [rC sa sc s_, Res.row (.slice a_49 y_51.length c_50) 49 1 y_51.length (y_51.flatMap encR), Res.rows (y_51.flatMap rdsR), bk b_45 60 [iv ((d.l.getD q o0).t.seq), .slice ((d.l.getD q o0).x.a0) ((d.l.getD q o0).t.cells.length) ((d.l.getD q o0).x.c0), .bool ((d.l.getD q o0).t.whole)], bk b_3 31 [.slice d.a d.l.length d.c, str d.jt, iv d.js]] ∧ k_ = y_51.length - j) _ ⟨0, a_53, c_54, (d.l.getD q o0).t.cells, by omega, (by rw [List.drop_zero]; omega), rfl, rfl, rfl, rfl, rfl, rfl, rfl, rfl, rfl, rfl, rfl⟩ ?_
    rintro _ e_55 _ ⟨j, sa, sc, s_, hj, hb, hR, he_56, he_57, he_58, he_59, he_60, he_61, he_62, he_63, rfl, rfl⟩
    refine jC <| jF <| jA (jl he_63 he_62) <| jE <| jB <| jC ?_
    by_cases h_64 : ((j : Nat) : Int) < ((y_51.length : Nat) : Int)
    · have hlt : j < y_51.length := by omega
      have hsc := sumC_step hlt
      refine jW (cB (dT h_64)) <| jT <| jB <| jC <| jf <| jC <| jF ?_
      refine kN fun hst => ?_
      obtain ⟨hr_65, hr_65b, -⟩ := row_some 1 rfl (by omega) hst
      refine jA (jk (i := j) kx gM hr_65 hr_65b he_61 he_63 (by omega)) <| jK (ka 1 (v := .slice ((y_51.getD j r0).x.a0) ((y_51.getD j r0).t.cells.length) ((y_51.getD j r0).x.c0)) rfl rfl kz (flat_at encR_len r0 y_51 j 0 (by omega) (by decide))) <| jA (jG (v := .slice ((y_51.getD j r0).x.a0) ((y_51.getD j r0).t.cells.length) ((y_51.getD j r0).x.c0)) rfl) <| jE <| jB <| jC <| kT (L' := [Res.rows ((y_51.take j).flatMap rdsR), Res.rows (rdsR (y_51.getD j r0)), Res.rows ((y_51.drop (j + 1)).flatMap rdsR), rC sa sc s_, Res.row (.slice a_49 y_51.length c_50) 49 1 y_51.length (y_51.flatMap encR), bk b_45 60 [iv ((d.l.getD q o0).t.seq), .slice ((d.l.getD q o0).x.a0) ((d.l.getD q o0).t.cells.length) ((d.l.getD q o0).x.c0), .bool ((d.l.getD q o0).t.whole)], bk b_3 31 [.slice d.a d.l.length d.c, str d.jt, iv d.js]]) (fun w hw => hw.splitR 2 rfl (flatMap_at r0 hlt)) <| kT (L' := [Res.row (.slice ((y_51.getD j r0).x.a0) ((y_51.getD j r0).t.cells.length) ((y_51.getD j r0).x.c0)) 48 2 (((y_51.getD j r0).t.cells).length) (((y_51.getD j r0).t.cells).flatMap encC), Res.rows ((y_51.take j).flatMap rdsR), Res.rows ((y_51.drop (j + 1)).flatMap rdsR), rC sa sc s_, Res.row (.slice a_49 y_51.length c_50) 49 1 y_51.length (y_51.flatMap encR), bk b_45 60 [iv ((d.l.getD q o0).t.seq), .slice ((d.l.getD q o0).x.a0) ((d.l.getD q o0).t.cells.length) ((d.l.getD q o0).x.c0), .bool ((d.l.getD q o0).t.whole)], bk b_3 31 [.slice d.a d.l.length d.c, str d.jt, iv d.js]]) (fun w hw => hw.openR 1 rfl) <| jF <| jA (jD (v := .slice ((y_51.getD j r0).x.a0) ((y_51.getD j r0).t.cells.length) ((y_51.getD j r0).x.c0)) rfl) ?_
      refine jA (jr kf rfl) <| jA (jD (v := iv 0) rfl) <| jE <| jB <| jf <| kT (L' := [rC sa sc s_, Res.row (.slice ((y_51.getD j r0).x.a0) ((y_51.getD j r0).t.cells.length) ((y_51.getD j r0).x.c0)) 48 2 (((y_51.getD j r0).t.cells).length) (((y_51.getD j r0).t.cells).flatMap encC), Res.rows ((y_51.take j).flatMap rdsR), Res.rows ((y_51.drop (j + 1)).flatMap rdsR), Res.row (.slice a_49 y_51.length c_50) 49 1 y_51.length (y_51.flatMap encR), bk b_45 60 [iv ((d.l.getD q o0).t.seq), .slice ((d.l.getD q o0).x.a0) ((d.l.getD q o0).t.cells.length) ((d.l.getD q o0).x.c0), .bool ((d.l.getD q o0).t.whole)], bk b_3 31 [.slice d.a d.l.length d.c, str d.jt, iv d.js]]) (fun w hw => hw.perm (pick_perm [3] (A := [rC sa sc s_]) (F := [Res.row (.slice ((y_51.getD j r0).x.a0) ((y_51.getD j r0).t.cells.length) ((y_51.getD j r0).x.c0)) 48 2 (((y_51.getD j r0).t.cells).length) (((y_51.getD j r0).t.cells).flatMap encC), Res.rows ((y_51.take j).flatMap rdsR), Res.rows ((y_51.drop (j + 1)).flatMap rdsR), Res.row (.slice a_49 y_51.length c_50) 49 1 y_51.length (y_51.flatMap encR), bk b_45 60 [iv ((d.l.getD q o0).t.seq), .slice ((d.l.getD q o0).x.a0) ((d.l.getD q o0).t.cells.length) ((d.l.getD q o0).x.c0), .bool ((d.l.getD q o0).t.whole)], bk b_3 31 [.slice d.a d.l.length d.c, str d.jt, iv d.js]]) rfl).symm) <| kD (fun k_ e_ L_ => ∃ i : Nat, ∃ qa : Option Addr, ∃ qc : Nat, ∃ q_ : List Cell, (i ≤ (y_51.getD j r0).t.cells.length) ∧ (q_.length + ((y_51.getD j r0).t.cells.length - i) ≤ s_.length + (y_51.getD j r0).t.cells.length) ∧ (applyR q_ ((y_51.getD j r0).t.cells.drop i) = applyR s_ (y_51.getD j r0).t.cells) ∧ e_ 2 = .slice none 0 0 ∧ e_ 3 = iv 0 ∧ e_ 4 = .pointer (some ⟨b_45, 0, none⟩) ∧ e_ 5 = .slice a_49 y_51.length c_50 ∧ e_ 7 = .slice qa q_.length qc ∧ e_ 34 = .slice a_49 y_51.length c_50 ∧ e_ 35 = nv y_51.length ∧ e_ 36 = nv j ∧ e_ 40 = .slice ((y_51.getD j r0).x.a0) ((y_51.getD j r0).t.cells.length) ((y_51.getD j r0).x.c0) ∧ e_ 41 = iv (((y_51.getD j r0).t.cells.length : Nat) : Int) ∧ e_ 42 = nv i ∧ L_ = [rC qa qc q_, Res.row (.slice ((y_51.getD j r0).x.a0) ((y_51.getD j r0).t.cells.length) ((y_51.getD j r0).x.c0)) 48 2 (((y_51.getD j r0).t.cells).length) (((y_51.getD j r0).t.cells).flatMap encC), Res.rows ((y_51.take j).flatMap rdsR), Res.rows ((y_51.drop (j + 1)).flatMap rdsR), Res.row (.slice a_49 y_51.length c_50) 49 1 y_51.length (y_51.flatMap encR), bk b_45 60 [iv ((d.l.getD q o0).t.seq), .slice ((d.l.getD q o0).x.a0) ((d.l.getD q o0).t.cells.length) ((d.l.getD q o0).x.c0), .bool ((d.l.getD q o0).t.whole)], bk b_3 31 [.slice d.a d.l.length d.c, str d.jt, iv d.js]] ∧ k_ = (y_51.getD j r0).t.cells.length - i) _ ⟨0, sa, sc, s_, by omega, by omega, rfl, he_56, he_57, he_58, he_59, he_60, he_61, he_62, he_63, rfl, rfl, rfl, rfl, rfl⟩ ?_
      rintro _ e_66 _ ⟨i, qa, qc, q_, hi, hb2, hR2, he_67, he_68, he_69, he_70, he_71, he_72, he_73, he_74, he_75, he_76, he_77, rfl, rfl⟩
      refine jC <| jF <| jA (jl he_77 he_76) <| jE <| jB <| jC ?_
      by_cases h_78 : ((i : Nat) : Int) < (((y_51.getD j r0).t.cells.length : Nat) : Int)
      · have hlt2 : i < (y_51.getD j r0).t.cells.length := by omega
        have hkl := (rec_key hys hlt hlt2).1
        have hpl := putKey_one q_ ((y_51.getD j r0).t.cells.getD i c0).1 ((y_51.getD j r0).t.cells.getD i c0).2
        refine jW (cB (dT h_78)) <| jT <| jB <| jC <| jf <| jC <| jF ?_
        refine kN fun hst => ?_
        obtain ⟨hr_79, hr_79b, -⟩ := row_some 1 rfl (by omega) hst
        refine jA (jk (i := i) kf kh hr_79 hr_79b he_75 he_77 (by omega)) <| jK (LO.loadRK 1 (vs := [str ((((y_51.getD j r0).t.cells).getD i c0).1), str ((((y_51.getD j r0).t.cells).getD i c0).2)]) rfl rfl gG kh (atC (by omega)) rfl (by decide)) ?_
        refine jH rfl (jo (z := .agg #[str [], str []]) (cs := [str [], str []]) kw rfl) ?_
        rintro _ _ ⟨b_80, rfl, rfl⟩
        refine jH rfl (ja 0 (vs := [str ((((y_51.getD j r0).t.cells).getD i c0).1), str ((((y_51.getD j r0).t.cells).getD i c0).2)]) (cs' := [str ((((y_51.getD j r0).t.cells).getD i c0).1), str ((((y_51.getD j r0).t.cells).getD i c0).2)]) rfl rfl rfl rfl kh rfl rfl (lb rfl) rfl) ?_
        rintro _ _ rfl
        refine jE <| jB <| jF <| jA (jD (v := .slice qa q_.length qc) he_71) <| jA (jQ fo48_0 rfl) <| jK (jZ 0 (v := str ((((y_51.getD j r0).t.cells).getD i c0).1)) rfl rfl ki rfl) <| jA (jQ fo48_1 rfl) <| jK (jZ 0 (v := str ((((y_51.getD j r0).t.cells).getD i c0).2)) rfl rfl ki rfl) ?_
        refine jH rfl (jI [1] Tryz.call86 rfl (C_put qa qc q_ ((((y_51.getD j r0).t.cells).getD i c0).1) ((((y_51.getD j r0).t.cells).getD i c0).2) (by omega) (by omega)) rfl (fun _ _ => trivial)) ?_
        rintro _ _ ⟨_, ⟨a_81, c_82, rfl, rfl⟩, rfl⟩
        refine jA (jG (v := .slice a_81 ((putKey q_ ((((y_51.getD j r0).t.cells).getD i c0).1) ((((y_51.getD j r0).t.cells).getD i c0).2)).length) c_82) rfl) <| jE <| jm <| jB <| jF <| jA (jc (c := ((i + 1 : Nat) : Int)) he_77 rfl (wr (by omega))) <| jA (jD (v := iv ((i + 1 : Nat) : Int)) rfl) <| jE <| kB [0, 1, 1, 1, 1, 1, 1] (A := [rC a_81 c_82 (putKey q_ ((((y_51.getD j r0).t.cells).getD i c0).1) ((((y_51.getD j r0).t.cells).getD i c0).2)), Res.row (.slice ((y_51.getD j r0).x.a0) ((y_51.getD j r0).t.cells.length) ((y_51.getD j r0).x.c0)) 48 2 (((y_51.getD j r0).t.cells).length) (((y_51.getD j r0).t.cells).flatMap encC), Res.rows ((y_51.take j).flatMap rdsR), Res.rows ((y_51.drop (j + 1)).flatMap rdsR), Res.row (.slice a_49 y_51.length c_50) 49 1 y_51.length (y_51.flatMap encR), bk b_45 60 [iv ((d.l.getD q o0).t.seq), .slice ((d.l.getD q o0).x.a0) ((d.l.getD q o0).t.cells.length) ((d.l.getD q o0).x.c0), .bool ((d.l.getD q o0).t.whole)], bk b_3 31 [.slice d.a d.l.length d.c, str d.jt, iv d.js]]) rfl ?_
        refine jq ((y_51.getD j r0).t.cells.length - (i + 1)) (by omega) ⟨i + 1, a_81, c_82, (putKey q_ ((((y_51.getD j r0).t.cells).getD i c0).1) ((((y_51.getD j r0).t.cells).getD i c0).2)), by omega, by omega, (by rw [applyR_step hlt2] at hR2; exact hR2), he_67, he_68, he_69, he_70, rfl, he_72, he_73, he_74, he_75, he_76, rfl, rfl, rfl⟩
      refine jR (cB (dF h_78)) <| jx <| jb <| jb <| jy <| jm <| jB <| jF <| jA (jc (c := ((j + 1 : Nat) : Int)) he_74 rfl (wr (by omega))) <| jA (jD (v := iv ((j + 1 : Nat) : Int)) rfl) ?_
      refine jE <| ju (L' := [Res.rows (rdsR (y_51.getD j r0)), rC qa qc q_, Res.rows ((y_51.take j).flatMap rdsR), Res.rows ((y_51.drop (j + 1)).flatMap rdsR), Res.row (.slice a_49 y_51.length c_50) 49 1 y_51.length (y_51.flatMap encR), bk b_45 60 [iv ((d.l.getD q o0).t.seq), .slice ((d.l.getD q o0).x.a0) ((d.l.getD q o0).t.cells.length) ((d.l.getD q o0).x.c0), .bool ((d.l.getD q o0).t.whole)], bk b_3 31 [.slice d.a d.l.length d.c, str d.jt, iv d.js]]) (fun w hw => hw.closeR (A := rdsR (y_51.getD j r0)) [1] rfl) <| ju (L' := [Res.rows (y_51.flatMap rdsR), rC qa qc q_, Res.row (.slice a_49 y_51.length c_50) 49 1 y_51.length (y_51.flatMap encR), bk b_45 60 [iv ((d.l.getD q o0).t.seq), .slice ((d.l.getD q o0).x.a0) ((d.l.getD q o0).t.cells.length) ((d.l.getD q o0).x.c0), .bool ((d.l.getD q o0).t.whole)], bk b_3 31 [.slice d.a d.l.length d.c, str d.jt, iv d.js]]) (fun w hw => hw.joinR [2, 0, 1] rfl (flatMap_at r0 hlt)) <| kB [1, 1, 0, 0, 0] (A := [rC qa qc q_, Res.row (.slice a_49 y_51.length c_50) 49 1 y_51.length (y_51.flatMap encR), Res.rows (y_51.flatMap rdsR), bk b_45 60 [iv ((d.l.getD q o0).t.seq), .slice ((d.l.getD q o0).x.a0) ((d.l.getD q o0).t.cells.length) ((d.l.getD q o0).x.c0), .bool ((d.l.getD q o0).t.whole)], bk b_3 31 [.slice d.a d.l.length d.c, str d.jt, iv d.js]]) rfl ?_
      refine jq (y_51.length - (j + 1)) (by omega) ⟨j + 1, qa, qc, q_, by omega, by omega, (by rw [applyAll_step hlt] at hR; rw [show (y_51.getD j r0).t.cells.drop i = [] from List.drop_of_length_le (by omega)] at hR2; rw [← hR2] at hR; exact hR), he_67, he_68, he_69, he_70, he_71, he_72, he_73, rfl, rfl, rfl⟩
    refine jR (cB (dF h_64)) <| jx <| jb <| jb <| jy <| jB <| jC <| kJ [rC sa sc s_, Res.row (.slice a_49 y_51.length c_50) 49 1 y_51.length (y_51.flatMap encR), Res.rows (y_51.flatMap rdsR), bk b_45 60 [iv ((d.l.getD q o0).t.seq), .slice ((d.l.getD q o0).x.a0) ((d.l.getD q o0).t.cells.length) ((d.l.getD q o0).x.c0), .bool ((d.l.getD q o0).t.whole)], bk b_3 31 [.slice d.a d.l.length d.c, str d.jt, iv d.js]] 0 mixed (by simp) <| jL 0 rfl (jD (v := .slice sa s_.length sc) he_60) <| jL 1 rfl (jQ fo60_0 he_58) ?_
    refine jL 3 rfl (jD (v := .slice a_49 y_51.length c_50) he_59) <| jL 4 rfl (jr kx rfl) <| jL 6 rfl (jG (v := .slice sa s_.length sc) rfl) <| jj (i := 2) ?_
    refine JX.lt rfl (jP (jZ 3 (v := iv ((d.l.getD q o0).t.seq)) rfl rfl kq rfl)) ?_
    rintro _ _ ⟨rfl, rfl⟩
    refine jL 5 rfl (jc (c := ((d.l.getD q o0).t.seq) + ((y_51.length : Nat) : Int)) rfl rfl (wr (by omega))) <| jL 7 rfl (jG (v := iv (((d.l.getD q o0).t.seq) + ((y_51.length : Nat) : Int))) rfl) <| kI (by kernel_rfl) <| jB <| jN <| kC (.inl rfl) rfl (jJ (v := .slice sa s_.length sc) rfl) (jJ (v := iv (((d.l.getD q o0).t.seq) + ((y_51.length : Nat) : Int))) rfl) (tS 1 _) ?_
    have hf : s_ = applyAll (d.l.getD q o0).t.cells (y_51.map cellsR) := by rw [show (y_51.map cellsR).drop j = [] from List.drop_of_length_le (by rw [List.length_map]; omega)] at hR; exact hR
    have he := recov_eq h_4 hbc hmost hys hf (List.length_map _)
    exact ⟨sa, sc, by rw [he] <;> rfl, by rw [he] <;> rfl⟩
  refine jW (cB (cN h_4)) <| jC <| jF <| jA (jG (v := .slice none 0 0) rfl) <| jA (jG (v := iv 0) rfl) <| jE <| jB <| jN <| jX <| JQ.nilRow 48 2 ?_
  refine kC (.inl rfl) rfl (jJ (v := .slice none 0 0) rfl) (jJ (v := iv 0) rfl) (tS 1 _) ?_
  have he := recov_not h_4
  exact ⟨none, 0, by rw [he] <;> rfl, by rw [he] <;> rfl⟩

end Go.Proofs.YtjncpgcccgdeiaaGreatDoor

set_option linter.unusedSimpArgs false
set_option linter.unusedVariables false
set_option linter.unnecessarySimpa false
namespace Go.Proofs.YtjncpgcccgdeiaaGreatDoor
open Go Go.RowKit
section
variable {P : Program} {n : Nat} {e : Env} {d : Option Tmp} {ty : TypeId} {pos : String} {aft : Array Edge} {gd : Option (Nat × Bool)}
end
attribute [local irreducible] JL JC JQ JO LO PO JA JX Ct

set_option maxRecDepth 4000 in
set_option maxHeartbeats 1000000 in
theorem Y_iFoldB (d : DX) (hz : d.dat.okz) (hl : d.dat.lim 1000000000) :
    Ct Tryz.prog 21 [.agg #[.slice d.a d.l.length d.c, str d.jt, .int .i64 d.js]] [] (fun w => SeesA w (rdsD d) ∧ HexOk w) (fun v A' => ∃ y : DX, y.dat = d.dat.foldB.1 ∧ v = .tuple #[.agg #[.slice y.a y.l.length y.c, str y.jt, .int .i64 y.js], .bool d.dat.foldB.2] ∧ A' = [.rows (rdsD y)]) := by
  refine Ct.introL Tryz.func21 rfl Tryz.ntmps21 (lb rfl) fun w0 hpre hlow => ?_
  have hs_1 : Sees w0 (.slice d.a d.l.length d.c) 3 d.l.length (d.l.flatMap encO) := (hpre.1).head
  have hi_2 : SeesA w0 (d.l.flatMap rdsO) := (hpre.1).tail
  have hjt := hz.k2
  have hdl : d.l.length ≤ 1000000000 := by have := hl.l0; simpa only [DX.dat, List.length_map] using this
  refine jC <| jF ?_
  refine jH rfl (kG (cs := [.slice d.a d.l.length d.c, str d.jt, iv d.js]) rfl rfl) ?_
  rintro _ _ ⟨b_3, rfl, rfl⟩
  refine jH rfl (jo (z := .agg #[.slice none 0 0, str [], iv 0]) (cs := [.slice none 0 0, str [], iv 0]) ko rfl) ?_
  rintro _ _ ⟨b_4, rfl, rfl⟩
  refine jA (jG (v := .bool false) rfl) <| jE <| jB <| jC <| jF <| jK (jO 1 (vs := [.slice d.a d.l.length d.c, str d.jt, iv d.js]) rfl rfl ke kd rfl rfl) ?_
  refine jH rfl (jI [] Tryz.call62 rfl (Z_implDiskclone d hl) rfl (fun w hw => hw.seeOutA hpre.1 nMA)) ?_
  rintro _ _ ⟨_, ⟨y_5, hy_6, rfl, rfl⟩, rfl⟩
  refine jH rfl (jo (z := .agg #[.slice none 0 0, str [], iv 0]) (cs := [.slice none 0 0, str [], iv 0]) ko rfl) ?_
  rintro _ _ ⟨b_7, rfl, rfl⟩
  refine jH rfl (ja 0 (vs := [.slice y_5.a y_5.l.length y_5.c, str y_5.jt, iv y_5.js]) (cs' := [.slice y_5.a y_5.l.length y_5.c, str y_5.jt, iv y_5.js]) rfl rfl rfl rfl kd rfl rfl (lb rfl) rfl) ?_
  rintro _ _ rfl
  refine jE <| jB <| jC <| jC <| jF <| jK (jO 3 (vs := [.slice d.a d.l.length d.c, str d.jt, iv d.js]) rfl rfl ke kd rfl rfl) ?_
  refine jH rfl (jI [] Tryz.call47 rfl (Y_implDiskOk d hz (by omega)) rfl (fun w hw => hw.seeOutA hpre.1 nMA)) ?_
  rintro _ _ ⟨_, ⟨rfl, rfl⟩, rfl⟩
  refine jA (jp rfl) <| jE <| jB ?_
  rcases Bool.eq_false_or_eq_true (diskOk d.dat) with h_8 | h_8
  · obtain ⟨q, hq, hql⟩ := diskOk_best h_8
    have hql : q < d.l.length := by simpa only [DX.dat, List.length_map] using hql
    have hjr := diskOk_jour h_8
    have hjr2 : ((d.jt.length : Nat) : Int) ≤ 20000 ∧ 0 ≤ d.js ∧ d.js ≤ ((d.jt.length : Nat) : Int) := by have h_ : jourOk d.jt d.js = true := hjr; simpa only [jourOk, within, Bool.and_eq_true, decide_eq_true_eq, and_assoc] using h_
    have hmost : (d.l.getD q o0).t.seq = mostOf d.dat := by rw [mostOf, hq, Int.toNat_natCast]; exact congrArg SD.seq getD_map'.symm
    have hmr := most_range h_8
    have hl2 := disk_two h_8
    refine jR (cB (cN h_8)) <| jT <| jB <| jC <| jF <| jK (jO 3 (vs := [.slice d.a d.l.length d.c, str d.jt, iv d.js]) rfl rfl ke kd rfl rfl) ?_
    refine jH rfl (jI [] Tryz.call48 rfl (Y_iBestN d hz (by omega) q hq) rfl (fun w hw => hw.seeOutA hpre.1 nMA)) ?_
    rintro _ _ ⟨_, ⟨rfl, rfl⟩, rfl⟩
    refine jA (jG (v := nv q) rfl) <| jE <| jB <| jC <| jF <| jK (jO 3 (vs := [.slice d.a d.l.length d.c, str d.jt, iv d.js]) rfl rfl ke kd rfl rfl) ?_
    refine jH rfl (jI [] Tryz.call33 rfl (Y_iRecov d hz hl) rfl (fun w hw => ⟨hw.seeOutA hpre.1 nMA, hw.hex hlow hpre.2⟩)) ?_
    rintro _ _ ⟨_, ⟨a_9, c_10, rfl, rfl⟩, rfl⟩
    refine jA (jD (v := .tuple #[.slice a_9 d.dat.recov.1.length c_10, iv d.dat.recov.2]) rfl) <| jA (je (v := .slice a_9 d.dat.recov.1.length c_10) rfl rfl) <| jA (je (v := iv d.dat.recov.2) rfl rfl) <| jA (jG (v := .slice a_9 d.dat.recov.1.length c_10) rfl) <| jA (jG (v := iv d.dat.recov.2) rfl) <| jE <| jB <| jC <| jC <| jF ?_
    refine jA (jD (v := iv d.dat.recov.2) rfl) <| jA (kR rfl rfl) <| jA (jD (v := .bool (decide (99999 < d.dat.recov.2))) rfl) ?_
    by_cases h_11 : 99999 < d.dat.recov.2
    · refine jS (b := true) rfl rfl rfl (cB (dT h_11)) <| jS (b := true) rfl rfl rfl (cB (dT h_11)) <| jS (b := true) rfl rfl rfl (cB (dT h_11)) <| jS (b := true) rfl rfl rfl (cB (dT h_11)) <| jS (b := true) rfl rfl rfl (cB (dT h_11)) <| jS (b := true) rfl rfl rfl (cB (dT h_11)) <| jS (b := true) rfl rfl rfl (cB (dT h_11)) <| jS (b := true) rfl rfl rfl (cB (dT h_11)) <| jA (jh (v := .bool true) (cB (dT h_11)) rfl) <| jE ?_
      refine jB <| jW (cB rfl) <| jC <| jF <| jK (jO 1 (vs := [.slice y_5.a y_5.l.length y_5.c, str y_5.jt, iv y_5.js]) rfl rfl ke kd rfl rfl) ?_
      refine jH rfl (ja 3 (vs := [.slice y_5.a y_5.l.length y_5.c, str y_5.jt, iv y_5.js]) (cs' := [.slice y_5.a y_5.l.length y_5.c, str y_5.jt, iv y_5.js]) rfl rfl rfl rfl kd rfl rfl (lb rfl) rfl) ?_
      rintro _ _ rfl
      refine jA (jG (v := .bool false) rfl) <| jE <| jB <| jN <| jX <| kM (pick_perm [2] (A := [Res.rows (rdsD y_5)]) (F := [rC a_9 c_10 d.dat.recov.1, bk b_7 31 [.slice y_5.a y_5.l.length y_5.c, str y_5.jt, iv y_5.js], bk b_4 31 [.slice y_5.a y_5.l.length y_5.c, str y_5.jt, iv y_5.js], bk b_3 31 [.slice d.a d.l.length d.c, str d.jt, iv d.js]]) rfl).symm <| kC (.inl rfl) rfl (kA (jO 3 (vs := [.slice y_5.a y_5.l.length y_5.c, str y_5.jt, iv y_5.js]) rfl rfl ke kd rfl rfl) ⟨_, rfl⟩) (jJ (v := .bool false) rfl) (tS 1 _) ?_
      have he := foldB_no (d := d.dat) (by rintro ⟨h_1, h_2⟩; first | omega | simp_all)
      exact ⟨y_5, (hy_6).trans (congrArg Prod.fst he).symm, by rw [he], rfl⟩
    refine jM rfl rfl rfl (cB (dF h_11)) (jP (jU (jD (v := iv d.dat.recov.2) rfl))) ?_
    rintro _ _ ⟨rfl, rfl⟩
    refine jM rfl rfl rfl (cB (dF h_11)) (jP (jU (jQ fo31_0 rfl))) ?_
    rintro _ _ ⟨rfl, rfl⟩
    refine jM rfl rfl rfl (cB (dF h_11)) (jP (jZ 4 (v := .slice d.a d.l.length d.c) rfl rfl ks rfl)) ?_
    rintro _ _ ⟨rfl, rfl⟩
    refine jM rfl rfl rfl (cB (dF h_11)) (jP (jU (jD (v := nv q) rfl))) ?_
    rintro _ _ ⟨rfl, rfl⟩
    obtain ⟨hr_12, hr_12b, -⟩ := sees_some hs_1 (by omega)
    refine jM rfl rfl rfl (cB (dF h_11)) (jP (jU (jk (i := q) km kj hr_12 hr_12b rfl rfl (by omega)))) ?_
    rintro _ _ ⟨rfl, rfl⟩
    refine jM rfl rfl rfl (cB (dF h_11)) (jP (jU (kL fo60_0 hr_12 rfl))) ?_
    rintro _ _ ⟨rfl, rfl⟩
    have hi_13 := SeesA.elem hi_2 o0 (show q < d.l.length by omega)
    have hs_14 := seesO hi_13
    refine jM rfl rfl rfl (cB (dF h_11)) (jP (kY (v := iv ((d.l.getD q o0).t.seq)) hs_1 nM rfl kq (flat_at encO_len o0 d.l q 0 (by omega) (by decide)))) ?_
    rintro _ _ ⟨rfl, rfl⟩
    refine jM rfl rfl rfl (cB (dF h_11)) (jP (jU (kO rfl rfl))) ?_
    rintro _ _ ⟨rfl, rfl⟩
    refine jA (ji (v := .bool (decide (d.dat.recov.2 = ((d.l.getD q o0).t.seq)))) (cB (dF h_11)) rfl) <| jE <| jB ?_
    by_cases h_15 : d.dat.recov.2 = ((d.l.getD q o0).t.seq)
    · refine jW (cB (dT h_15)) <| jC <| jF <| jK (jO 1 (vs := [.slice y_5.a y_5.l.length y_5.c, str y_5.jt, iv y_5.js]) rfl rfl ke kd rfl rfl) ?_
      refine jH rfl (ja 3 (vs := [.slice y_5.a y_5.l.length y_5.c, str y_5.jt, iv y_5.js]) (cs' := [.slice y_5.a y_5.l.length y_5.c, str y_5.jt, iv y_5.js]) rfl rfl rfl rfl kd rfl rfl (lb rfl) rfl) ?_
      rintro _ _ rfl
      refine jA (jG (v := .bool false) rfl) <| jE <| jB <| jN <| jX <| kM (pick_perm [2] (A := [Res.rows (rdsD y_5)]) (F := [rC a_9 c_10 d.dat.recov.1, bk b_7 31 [.slice y_5.a y_5.l.length y_5.c, str y_5.jt, iv y_5.js], bk b_4 31 [.slice y_5.a y_5.l.length y_5.c, str y_5.jt, iv y_5.js], bk b_3 31 [.slice d.a d.l.length d.c, str d.jt, iv d.js]]) rfl).symm <| kC (.inl rfl) rfl (kA (jO 3 (vs := [.slice y_5.a y_5.l.length y_5.c, str y_5.jt, iv y_5.js]) rfl rfl ke kd rfl rfl) ⟨_, rfl⟩) (jJ (v := .bool false) rfl) (tS 1 _) ?_
      have he := foldB_no (d := d.dat) (by rintro ⟨h_1, h_2⟩; first | omega | simp_all)
      exact ⟨y_5, (hy_6).trans (congrArg Prod.fst he).symm, by rw [he], rfl⟩
    refine jR (cB (dF h_15)) <| jT <| jB <| jC <| jF <| jK (jO 4 (vs := [.slice d.a d.l.length d.c, str d.jt, iv d.js]) rfl rfl ke kd rfl rfl) ?_
    refine jH rfl (jI [] Tryz.call19 rfl (Y_iClean d hz hl) rfl (fun w hw => ⟨hw.seeOutA hpre.1 nMA, hw.hex hlow hpre.2⟩)) ?_
    rintro _ _ ⟨_, ⟨y_16, hy_17, rfl, rfl⟩, rfl⟩
    refine jH rfl (ja 2 (vs := [.slice y_16.a y_16.l.length y_16.c, str y_16.jt, iv y_16.js]) (cs' := [.slice y_16.a y_16.l.length y_16.c, str y_16.jt, iv y_16.js]) rfl rfl rfl rfl kd rfl rfl (lb rfl) rfl) ?_
    rintro _ _ rfl
    refine jE <| jB <| jC ?_
    have hzl : y_16.l.length = 2 := by have e_ := congrArg (fun q : DD => q.slots.length) hy_17; rw [clean_slots] at e_; simp only [DX.dat, List.length_map] at e_; omega
    refine kT (L' := [Res.row (.slice y_16.a y_16.l.length y_16.c) 60 3 y_16.l.length (y_16.l.flatMap encO), Res.rows (y_16.l.flatMap rdsO), rC a_9 c_10 d.dat.recov.1, bk b_7 31 [.slice y_16.a y_16.l.length y_16.c, str y_16.jt, iv y_16.js], Res.rows (rdsD y_5), bk b_4 31 [.slice none 0 0, str [], iv 0], bk b_3 31 [.slice d.a d.l.length d.c, str d.jt, iv d.js]]) (fun w hw => hw.headR (r := ⟨.slice y_16.a y_16.l.length y_16.c, 60, 3, y_16.l.length, y_16.l.flatMap encO⟩) (A := y_16.l.flatMap rdsO) 0 rfl) <| jF <| jA (jQ fo31_0 rfl) <| jK (jZ 3 (v := .slice y_16.a y_16.l.length y_16.c) rfl rfl ks rfl) <| jA (jD (v := nv q) rfl) <| jA (kZ (c := ((1 - q : Nat) : Int)) rfl rfl (wr (by omega))) <| jA (jD (v := iv d.dat.recov.2) rfl) <| jA (jD (v := .slice a_9 d.dat.recov.1.length c_10) rfl) <| jA (kW (ps := [(0, iv d.dat.recov.2), (1, .slice a_9 d.dat.recov.1.length c_10)]) (cs := [iv d.dat.recov.2, .slice a_9 d.dat.recov.1.length c_10, .bool false]) rfl (by kernel_rfl)) ?_
    refine kN fun hst => ?_
    obtain ⟨hr_18, hr_18b, -⟩ := row_some 0 rfl (by omega) hst
    refine jA (jk (i := (1 - q)) km kj hr_18 hr_18b rfl rfl (by omega)) ?_
    refine jH rfl (JO.storeR 0 (vs := [iv d.dat.recov.2, .slice a_9 d.dat.recov.1.length c_10, .bool false]) (cs' := (y_16.l.set (1 - q) (⟨⟨a_9, c_10⟩, ⟨d.dat.recov.2, d.dat.recov.1, false⟩⟩ : OX)).flatMap encO) rfl rfl rfl rfl kj rfl rfl (by decide) (by rw [flat_length encO_len]; omega) (flat_set encO_len y_16.l (1 - q) (⟨⟨a_9, c_10⟩, ⟨d.dat.recov.2, d.dat.recov.1, false⟩⟩ : OX) (by omega))) ?_
    rintro _ _ rfl
    refine jE <| jB <| jC <| jF <| jK (jO 3 (vs := [.slice y_16.a y_16.l.length y_16.c, str y_16.jt, iv y_16.js]) rfl rfl ke kd rfl rfl) ?_
    refine jH rfl (ja 5 (vs := [.slice y_16.a y_16.l.length y_16.c, str y_16.jt, iv y_16.js]) (cs' := [.slice y_16.a y_16.l.length y_16.c, str y_16.jt, iv y_16.js]) rfl rfl rfl rfl kd rfl rfl (lb rfl) rfl) ?_
    rintro _ _ rfl
    refine jA (jG (v := .bool true) rfl) <| jE <| jB <| jN ?_
    have hi1 : 1 - q < y_16.l.length := by omega
    refine ju (L' := [Res.rows ((y_16.l.take (1 - q)).flatMap rdsO), Res.rows (rdsO (y_16.l.getD (1 - q) o0)), Res.rows ((y_16.l.drop (1 - q + 1)).flatMap rdsO), Res.row (.slice y_16.a y_16.l.length y_16.c) 60 3 y_16.l.length ((y_16.l.set (1 - q) (⟨⟨a_9, c_10⟩, ⟨d.dat.recov.2, d.dat.recov.1, false⟩⟩ : OX)).flatMap encO), rC a_9 c_10 d.dat.recov.1, bk b_7 31 [.slice y_16.a y_16.l.length y_16.c, str y_16.jt, iv y_16.js], Res.rows (rdsD y_5), bk b_4 31 [.slice y_16.a y_16.l.length y_16.c, str y_16.jt, iv y_16.js], bk b_3 31 [.slice d.a d.l.length d.c, str d.jt, iv d.js]]) (fun w hw => hw.splitR 1 rfl (flatMap_at o0 hi1)) <| ju (L' := [Res.rows (rdsO (⟨⟨a_9, c_10⟩, ⟨d.dat.recov.2, d.dat.recov.1, false⟩⟩ : OX)), Res.rows ((y_16.l.take (1 - q)).flatMap rdsO), Res.rows (rdsO (y_16.l.getD (1 - q) o0)), Res.rows ((y_16.l.drop (1 - q + 1)).flatMap rdsO), Res.row (.slice y_16.a y_16.l.length y_16.c) 60 3 y_16.l.length ((y_16.l.set (1 - q) (⟨⟨a_9, c_10⟩, ⟨d.dat.recov.2, d.dat.recov.1, false⟩⟩ : OX)).flatMap encO), bk b_7 31 [.slice y_16.a y_16.l.length y_16.c, str y_16.jt, iv y_16.js], Res.rows (rdsD y_5), bk b_4 31 [.slice y_16.a y_16.l.length y_16.c, str y_16.jt, iv y_16.js], bk b_3 31 [.slice d.a d.l.length d.c, str d.jt, iv d.js]]) (fun w hw => hw.closeR (A := rdsO (⟨⟨a_9, c_10⟩, ⟨d.dat.recov.2, d.dat.recov.1, false⟩⟩ : OX)) [4] rfl) <| ju (L' := [Res.rows ((y_16.l.set (1 - q) (⟨⟨a_9, c_10⟩, ⟨d.dat.recov.2, d.dat.recov.1, false⟩⟩ : OX)).flatMap rdsO), Res.rows (rdsO (y_16.l.getD (1 - q) o0)), Res.row (.slice y_16.a y_16.l.length y_16.c) 60 3 y_16.l.length ((y_16.l.set (1 - q) (⟨⟨a_9, c_10⟩, ⟨d.dat.recov.2, d.dat.recov.1, false⟩⟩ : OX)).flatMap encO), bk b_7 31 [.slice y_16.a y_16.l.length y_16.c, str y_16.jt, iv y_16.js], Res.rows (rdsD y_5), bk b_4 31 [.slice y_16.a y_16.l.length y_16.c, str y_16.jt, iv y_16.js], bk b_3 31 [.slice d.a d.l.length d.c, str d.jt, iv d.js]]) (fun w hw => hw.joinR [1, 0, 1] rfl (flatMap_setAt hi1)) <| ju (L' := [Res.rows ((y_16.l.set (1 - q) (⟨⟨a_9, c_10⟩, ⟨d.dat.recov.2, d.dat.recov.1, false⟩⟩ : OX)).flatMap rdsO), Res.rows (rdsO (y_16.l.getD (1 - q) o0)), Res.row (.slice y_16.a ((y_16.l.set (1 - q) (⟨⟨a_9, c_10⟩, ⟨d.dat.recov.2, d.dat.recov.1, false⟩⟩ : OX)).length) y_16.c) 60 3 ((y_16.l.set (1 - q) (⟨⟨a_9, c_10⟩, ⟨d.dat.recov.2, d.dat.recov.1, false⟩⟩ : OX)).length) ((y_16.l.set (1 - q) (⟨⟨a_9, c_10⟩, ⟨d.dat.recov.2, d.dat.recov.1, false⟩⟩ : OX)).flatMap encO), bk b_7 31 [.slice y_16.a y_16.l.length y_16.c, str y_16.jt, iv y_16.js], Res.rows (rdsD y_5), bk b_4 31 [.slice y_16.a y_16.l.length y_16.c, str y_16.jt, iv y_16.js], bk b_3 31 [.slice d.a d.l.length d.c, str d.jt, iv d.js]]) (fun w hw => hw.eqL (by simp only [List.length_set])) <| ju (L' := [Res.rows (rdsOS y_16.a y_16.c (y_16.l.set (1 - q) (⟨⟨a_9, c_10⟩, ⟨d.dat.recov.2, d.dat.recov.1, false⟩⟩ : OX))), Res.rows (rdsO (y_16.l.getD (1 - q) o0)), bk b_7 31 [.slice y_16.a y_16.l.length y_16.c, str y_16.jt, iv y_16.js], Res.rows (rdsD y_5), bk b_4 31 [.slice y_16.a y_16.l.length y_16.c, str y_16.jt, iv y_16.js], bk b_3 31 [.slice d.a d.l.length d.c, str d.jt, iv d.js]]) (fun w hw => hw.consR (r := ⟨.slice y_16.a ((y_16.l.set (1 - q) (⟨⟨a_9, c_10⟩, ⟨d.dat.recov.2, d.dat.recov.1, false⟩⟩ : OX)).length) y_16.c, 60, 3, (y_16.l.set (1 - q) (⟨⟨a_9, c_10⟩, ⟨d.dat.recov.2, d.dat.recov.1, false⟩⟩ : OX)).length, (y_16.l.set (1 - q) (⟨⟨a_9, c_10⟩, ⟨d.dat.recov.2, d.dat.recov.1, false⟩⟩ : OX)).flatMap encO⟩) (A := (y_16.l.set (1 - q) (⟨⟨a_9, c_10⟩, ⟨d.dat.recov.2, d.dat.recov.1, false⟩⟩ : OX)).flatMap rdsO) [2, 0] rfl) <| kC (.inl rfl) rfl (kA (jO 4 (vs := [.slice y_16.a y_16.l.length y_16.c, str y_16.jt, iv y_16.js]) rfl rfl ke kd rfl rfl) ⟨_, rfl⟩) (jJ (v := .bool true) rfl) (tS 1 _) ?_
    have he := foldB_yes (d := d.dat) ⟨h_8, by omega, by omega⟩
    have hc := hy_17
    rw [DD.clean, if_pos h_8] at hc
    refine ⟨(⟨y_16.a, y_16.c, y_16.l.set (1 - q) (⟨⟨a_9, c_10⟩, ⟨d.dat.recov.2, d.dat.recov.1, false⟩⟩ : OX), y_16.jt, y_16.js⟩ : DX), ?_, by simp only [he, List.length_set], rfl⟩
    rw [he]
    exact fold_dat (congrArg DD.slots hc) (congrArg DD.jt hc) (congrArg DD.js hc) hq rfl
  refine jW (cB (cN h_8)) <| jC <| jF <| jK (jO 0 (vs := [.slice y_5.a y_5.l.length y_5.c, str y_5.jt, iv y_5.js]) rfl rfl ke kd rfl rfl) ?_
  refine jH rfl (ja 2 (vs := [.slice y_5.a y_5.l.length y_5.c, str y_5.jt, iv y_5.js]) (cs' := [.slice y_5.a y_5.l.length y_5.c, str y_5.jt, iv y_5.js]) rfl rfl rfl rfl kd rfl rfl (lb rfl) rfl) ?_
  rintro _ _ rfl
  refine jA (jG (v := .bool false) rfl) <| jE <| jB <| jN <| jX <| kM (pick_perm [1] (A := [Res.rows (rdsD y_5)]) (F := [bk b_7 31 [.slice y_5.a y_5.l.length y_5.c, str y_5.jt, iv y_5.js], bk b_4 31 [.slice y_5.a y_5.l.length y_5.c, str y_5.jt, iv y_5.js], bk b_3 31 [.slice d.a d.l.length d.c, str d.jt, iv d.js]]) rfl).symm <| kC (.inl rfl) rfl (kA (jO 2 (vs := [.slice y_5.a y_5.l.length y_5.c, str y_5.jt, iv y_5.js]) rfl rfl ke kd rfl rfl) ⟨_, rfl⟩) (jJ (v := .bool false) rfl) (tS 1 _) ?_
  have he := foldB_no (d := d.dat) (by rintro ⟨h_1, h_2⟩; first | omega | simp_all)
  exact ⟨y_5, (hy_6).trans (congrArg Prod.fst he).symm, by rw [he], rfl⟩

set_option maxRecDepth 4000 in
set_option maxHeartbeats 1000000 in
theorem Y_iFoldE (d : DX) (hz : d.dat.okz) (hl : d.dat.lim 1000000000) :
    Ct Tryz.prog 32 [.agg #[.slice d.a d.l.length d.c, str d.jt, .int .i64 d.js]] [] (fun w => SeesA w (rdsD d)) (fun v A' => ∃ y : DX, y.dat = d.dat.foldE.1 ∧ v = .tuple #[.agg #[.slice y.a y.l.length y.c, str y.jt, .int .i64 y.js], .bool d.dat.foldE.2] ∧ A' = [.rows (rdsD y)]) := by
  refine Ct.intro Tryz.func32 rfl Tryz.ntmps32 (lb rfl) fun w0 hpre => ?_
  have hs_1 : Sees w0 (.slice d.a d.l.length d.c) 3 d.l.length (d.l.flatMap encO) := (hpre).head
  have hi_2 : SeesA w0 (d.l.flatMap rdsO) := (hpre).tail
  have hjt := hz.k2
  have hdl : d.l.length ≤ 1000000000 := by have := hl.l0; simpa only [DX.dat, List.length_map] using this
  refine jC <| jF ?_
  refine jH rfl (kG (cs := [.slice d.a d.l.length d.c, str d.jt, iv d.js]) rfl rfl) ?_
  rintro _ _ ⟨b_3, rfl, rfl⟩
  refine jH rfl (jo (z := .agg #[.slice none 0 0, str [], iv 0]) (cs := [.slice none 0 0, str [], iv 0]) ko rfl) ?_
  rintro _ _ ⟨b_4, rfl, rfl⟩
  refine jA (jG (v := .bool false) rfl) <| jE <| jB <| jC <| jF <| jK (jO 1 (vs := [.slice d.a d.l.length d.c, str d.jt, iv d.js]) rfl rfl ke kd rfl rfl) ?_
  refine jH rfl (jI [] Tryz.call62 rfl (Z_implDiskclone d hl) rfl (fun w hw => hw.seeOutA hpre nMA)) ?_
  rintro _ _ ⟨_, ⟨y_5, hy_6, rfl, rfl⟩, rfl⟩
  refine jH rfl (jo (z := .agg #[.slice none 0 0, str [], iv 0]) (cs := [.slice none 0 0, str [], iv 0]) ko rfl) ?_
  rintro _ _ ⟨b_7, rfl, rfl⟩
  refine jH rfl (ja 0 (vs := [.slice y_5.a y_5.l.length y_5.c, str y_5.jt, iv y_5.js]) (cs' := [.slice y_5.a y_5.l.length y_5.c, str y_5.jt, iv y_5.js]) rfl rfl rfl rfl kd rfl rfl (lb rfl) rfl) ?_
  rintro _ _ rfl
  refine jE <| jB <| jC <| jC ?_
  have hyl : y_5.l.length = d.l.length := by have e_ := congrArg (fun q : DD => q.slots.length) hy_6; simpa only [DX.dat, List.length_map] using e_
  refine jF <| jK (jO 3 (vs := [.slice d.a d.l.length d.c, str d.jt, iv d.js]) rfl rfl ke kd rfl rfl) ?_
  refine jH rfl (jI [] Tryz.call47 rfl (Y_implDiskOk d hz (by omega)) rfl (fun w hw => hw.seeOutA hpre nMA)) ?_
  rintro _ _ ⟨_, ⟨rfl, rfl⟩, rfl⟩
  refine jA (jp rfl) <| jE <| jB ?_
  rcases Bool.eq_false_or_eq_true (diskOk d.dat) with h_8 | h_8
  · obtain ⟨q, hq, hql⟩ := diskOk_best h_8
    have hql : q < d.l.length := by simpa only [DX.dat, List.length_map] using hql
    have hjr := diskOk_jour h_8
    have hjr2 : ((d.jt.length : Nat) : Int) ≤ 20000 ∧ 0 ≤ d.js ∧ d.js ≤ ((d.jt.length : Nat) : Int) := by have h_ : jourOk d.jt d.js = true := hjr; simpa only [jourOk, within, Bool.and_eq_true, decide_eq_true_eq, and_assoc] using h_
    have hmost : (d.l.getD q o0).t.seq = mostOf d.dat := by rw [mostOf, hq, Int.toNat_natCast]; exact congrArg SD.seq getD_map'.symm
    have hmr := most_range h_8
    have hl2 := disk_two h_8
    refine jR (cB (cN h_8)) <| jT <| jB <| jC <| jF <| jK (jO 3 (vs := [.slice d.a d.l.length d.c, str d.jt, iv d.js]) rfl rfl ke kd rfl rfl) ?_
    refine jH rfl (jI [] Tryz.call48 rfl (Y_iBestN d hz (by omega) q hq) rfl (fun w hw => hw.seeOutA hpre nMA)) ?_
    rintro _ _ ⟨_, ⟨rfl, rfl⟩, rfl⟩
    refine jA (jG (v := nv q) rfl) <| jE <| jB <| jC <| jF <| jA (jQ fo31_0 rfl) <| jK (jZ 3 (v := .slice d.a d.l.length d.c) rfl rfl ks rfl) <| jA (jD (v := nv q) rfl) <| jA (kZ (c := ((1 - q : Nat) : Int)) rfl rfl (wr (by omega))) ?_
    obtain ⟨hr_9, hr_9b, -⟩ := sees_some hs_1 (by omega)
    refine jA (jk (i := (1 - q)) km kj hr_9 hr_9b rfl rfl (by omega)) ?_
    have hi_10 := SeesA.elem hi_2 o0 (show 1 - q < d.l.length by omega)
    have hs_11 := seesO hi_10
    refine jK (kX (vs := [iv ((d.l.getD (1 - q) o0).t.seq), .slice ((d.l.getD (1 - q) o0).x.a0) ((d.l.getD (1 - q) o0).t.cells.length) ((d.l.getD (1 - q) o0).x.c0), .bool ((d.l.getD (1 - q) o0).t.whole)]) hs_1 nM rfl gB kj (flat_take encO_len o0 d.l (1 - q) (by omega)) rfl (by decide)) ?_
    refine jH rfl (jo (z := .agg #[iv 0, .slice none 0 0, .bool false]) (cs := [iv 0, .slice none 0 0, .bool false]) gD rfl) ?_
    rintro _ _ ⟨b_12, rfl, rfl⟩
    refine jH rfl (ja 0 (vs := [iv ((d.l.getD (1 - q) o0).t.seq), .slice ((d.l.getD (1 - q) o0).x.a0) ((d.l.getD (1 - q) o0).t.cells.length) ((d.l.getD (1 - q) o0).x.c0), .bool ((d.l.getD (1 - q) o0).t.whole)]) (cs' := [iv ((d.l.getD (1 - q) o0).t.seq), .slice ((d.l.getD (1 - q) o0).x.a0) ((d.l.getD (1 - q) o0).t.cells.length) ((d.l.getD (1 - q) o0).x.c0), .bool ((d.l.getD (1 - q) o0).t.whole)]) rfl rfl rfl rfl kj rfl rfl (lb rfl) rfl) ?_
    rintro _ _ rfl
    refine jE <| jB <| jC <| jC <| kJ [bk b_12 60 [iv ((d.l.getD (1 - q) o0).t.seq), .slice ((d.l.getD (1 - q) o0).x.a0) ((d.l.getD (1 - q) o0).t.cells.length) ((d.l.getD (1 - q) o0).x.c0), .bool ((d.l.getD (1 - q) o0).t.whole)], bk b_7 31 [.slice y_5.a y_5.l.length y_5.c, str y_5.jt, iv y_5.js], Res.rows (rdsD y_5), bk b_4 31 [.slice none 0 0, str [], iv 0], bk b_3 31 [.slice d.a d.l.length d.c, str d.jt, iv d.js]] 1000 mixed (by simp) <| jL 0 rfl (jQ fo60_2 rfl) <| jw 1 rfl (jZ 0 (v := .bool ((d.l.getD (1 - q) o0).t.whole)) rfl rfl gI rfl) <| jL 2 rfl (jD (v := .bool ((d.l.getD (1 - q) o0).t.whole)) rfl) ?_
    rcases Bool.eq_false_or_eq_true ((d.l.getD (1 - q) o0).t.whole) with h_13 | h_13
    · refine jd 3 (b := true) rfl (by kernel_rfl) (NP.th (NP.th NP.body)) (by kernel_rfl) (by kernel_rfl) rfl rfl rfl (cB h_13) <| jd 4 (b := true) rfl (by kernel_rfl) (NP.th (NP.th NP.body)) (by kernel_rfl) (by kernel_rfl) rfl rfl rfl (cB h_13) <| jd 5 (b := true) rfl (by kernel_rfl) (NP.th (NP.th NP.body)) (by kernel_rfl) (by kernel_rfl) rfl rfl rfl (cB h_13) <| jd 6 (b := true) rfl (by kernel_rfl) (NP.th (NP.th NP.body)) (by kernel_rfl) (by kernel_rfl) rfl rfl rfl (cB h_13) <| jd 7 (b := true) rfl (by kernel_rfl) (NP.th (NP.th NP.body)) (by kernel_rfl) (by kernel_rfl) rfl rfl rfl (cB h_13) <| jd 8 (b := true) rfl (by kernel_rfl) (NP.th (NP.th NP.body)) (by kernel_rfl) (by kernel_rfl) rfl rfl rfl (cB h_13) <| jd 9 (b := true) rfl (by kernel_rfl) (NP.th (NP.th NP.body)) (by kernel_rfl) (by kernel_rfl) rfl rfl rfl (cB h_13) <| jd 10 (b := true) rfl (by kernel_rfl) (NP.th (NP.th NP.body)) (by kernel_rfl) (by kernel_rfl) rfl rfl rfl (cB h_13) <| jd 11 (b := true) rfl (by kernel_rfl) (NP.th (NP.th NP.body)) (by kernel_rfl) (by kernel_rfl) rfl rfl rfl (cB h_13) <| jL 12 rfl (jh (v := .bool true) (cB h_13) rfl) ?_
      refine jL 13 rfl (jD (v := .bool true) rfl) <| jd 14 (b := true) rfl (by kernel_rfl) (NP.th (NP.th NP.body)) (by kernel_rfl) (by kernel_rfl) rfl rfl rfl (cB rfl) <| jd 15 (b := true) rfl (by kernel_rfl) (NP.th (NP.th NP.body)) (by kernel_rfl) (by kernel_rfl) rfl rfl rfl (cB rfl) <| jd 16 (b := true) rfl (by kernel_rfl) (NP.th (NP.th NP.body)) (by kernel_rfl) (by kernel_rfl) rfl rfl rfl (cB rfl) <| jd 17 (b := true) rfl (by kernel_rfl) (NP.th (NP.th NP.body)) (by kernel_rfl) (by kernel_rfl) rfl rfl rfl (cB rfl) <| jL 18 rfl (jh (v := .bool true) (cB rfl) rfl) <| jL 19 rfl (jD (v := .bool true) rfl) <| jd 20 (b := true) rfl (by kernel_rfl) (NP.th (NP.th NP.body)) (by kernel_rfl) (by kernel_rfl) rfl rfl rfl (cB rfl) <| jd 21 (b := true) rfl (by kernel_rfl) (NP.th (NP.th NP.body)) (by kernel_rfl) (by kernel_rfl) rfl rfl rfl (cB rfl) <| jd 22 (b := true) rfl (by kernel_rfl) (NP.th (NP.th NP.body)) (by kernel_rfl) (by kernel_rfl) rfl rfl rfl (cB rfl) ?_
      refine jd 23 (b := true) rfl (by kernel_rfl) (NP.th (NP.th NP.body)) (by kernel_rfl) (by kernel_rfl) rfl rfl rfl (cB rfl) <| jL 24 rfl (jh (v := .bool true) (cB rfl) rfl) <| kI (by kernel_rfl) <| jB <| jW (cB rfl) <| jC <| jF <| jK (jO 1 (vs := [.slice y_5.a y_5.l.length y_5.c, str y_5.jt, iv y_5.js]) rfl rfl ke kd rfl rfl) ?_
      refine jH rfl (ja 3 (vs := [.slice y_5.a y_5.l.length y_5.c, str y_5.jt, iv y_5.js]) (cs' := [.slice y_5.a y_5.l.length y_5.c, str y_5.jt, iv y_5.js]) rfl rfl rfl rfl kd rfl rfl (lb rfl) rfl) ?_
      rintro _ _ rfl
      refine jA (jG (v := .bool false) rfl) <| jE <| jB <| jN <| jX <| kM (pick_perm [2] (A := [Res.rows (rdsD y_5)]) (F := [bk b_12 60 [iv ((d.l.getD (1 - q) o0).t.seq), .slice ((d.l.getD (1 - q) o0).x.a0) ((d.l.getD (1 - q) o0).t.cells.length) ((d.l.getD (1 - q) o0).x.c0), .bool ((d.l.getD (1 - q) o0).t.whole)], bk b_7 31 [.slice y_5.a y_5.l.length y_5.c, str y_5.jt, iv y_5.js], bk b_4 31 [.slice y_5.a y_5.l.length y_5.c, str y_5.jt, iv y_5.js], bk b_3 31 [.slice d.a d.l.length d.c, str d.jt, iv d.js]]) rfl).symm <| kC (.inl rfl) rfl (kA (jO 3 (vs := [.slice y_5.a y_5.l.length y_5.c, str y_5.jt, iv y_5.js]) rfl rfl ke kd rfl rfl) ⟨_, rfl⟩) (jJ (v := .bool false) rfl) (tS 1 _) ?_
      have hoth : othD d.dat = (d.l.getD (1 - q) o0).t := by rw [othD, hq, Int.toNat_natCast]; exact getD_map'
      have he := foldE_no (d := d.dat) (by rw [hoth]; rintro ⟨h_1, h_2, h_3, h_4, h_5⟩; first | omega | simp_all)
      exact ⟨y_5, (hy_6).trans (congrArg Prod.fst he).symm, by rw [he], rfl⟩
    refine jg 3 rfl (by kernel_rfl) (NP.th (NP.th NP.body)) (by kernel_rfl) (by kernel_rfl) rfl rfl rfl (cB h_13) (jQ fo60_0 rfl) <| kK 4 rfl (by kernel_rfl) (NP.th (NP.th NP.body)) (by kernel_rfl) (by kernel_rfl) (by kernel_rfl) rfl rfl rfl (cB h_13) (jZ 0 (v := iv ((d.l.getD (1 - q) o0).t.seq)) rfl rfl kq rfl) <| jg 5 rfl (by kernel_rfl) (NP.th (NP.th NP.body)) (by kernel_rfl) (by kernel_rfl) rfl rfl rfl (cB h_13) (jQ fo31_0 rfl) <| kK 6 rfl (by kernel_rfl) (NP.th (NP.th NP.body)) (by kernel_rfl) (by kernel_rfl) (by kernel_rfl) rfl rfl rfl (cB h_13) (jZ 4 (v := .slice d.a d.l.length d.c) rfl rfl ks rfl) <| jg 7 rfl (by kernel_rfl) (NP.th (NP.th NP.body)) (by kernel_rfl) (by kernel_rfl) rfl rfl rfl (cB h_13) (jD (v := nv q) rfl) <| jg 8 rfl (by kernel_rfl) (NP.th (NP.th NP.body)) (by kernel_rfl) (by kernel_rfl) rfl rfl rfl (cB h_13) (jk (i := q) km kj hr_9 hr_9b rfl rfl (by omega)) <| jg 9 rfl (by kernel_rfl) (NP.th (NP.th NP.body)) (by kernel_rfl) (by kernel_rfl) rfl rfl rfl (cB h_13) (kL fo60_0 hr_9 rfl) ?_
    have hi_14 := SeesA.elem hi_2 o0 (show q < d.l.length by omega)
    have hs_15 := seesO hi_14
    refine kK 10 rfl (by kernel_rfl) (NP.th (NP.th NP.body)) (by kernel_rfl) (by kernel_rfl) (by kernel_rfl) rfl rfl rfl (cB h_13) (kY (v := iv ((d.l.getD q o0).t.seq)) hs_1 nM rfl kq (flat_at encO_len o0 d.l q 0 (by omega) (by decide))) <| jg 11 rfl (by kernel_rfl) (NP.th (NP.th NP.body)) (by kernel_rfl) (by kernel_rfl) rfl rfl rfl (cB h_13) (PO.leq rfl rfl) <| jL 12 rfl (ji (v := .bool (decide (((d.l.getD (1 - q) o0).t.seq) ≤ ((d.l.getD q o0).t.seq)))) (cB h_13) rfl) <| jL 13 rfl (jD (v := .bool (decide (((d.l.getD (1 - q) o0).t.seq) ≤ ((d.l.getD q o0).t.seq)))) rfl) ?_
    by_cases h_16 : ((d.l.getD (1 - q) o0).t.seq) ≤ ((d.l.getD q o0).t.seq)
    · refine jd 14 (b := true) rfl (by kernel_rfl) (NP.th (NP.th NP.body)) (by kernel_rfl) (by kernel_rfl) rfl rfl rfl (cB (dT h_16)) <| jd 15 (b := true) rfl (by kernel_rfl) (NP.th (NP.th NP.body)) (by kernel_rfl) (by kernel_rfl) rfl rfl rfl (cB (dT h_16)) <| jd 16 (b := true) rfl (by kernel_rfl) (NP.th (NP.th NP.body)) (by kernel_rfl) (by kernel_rfl) rfl rfl rfl (cB (dT h_16)) <| jd 17 (b := true) rfl (by kernel_rfl) (NP.th (NP.th NP.body)) (by kernel_rfl) (by kernel_rfl) rfl rfl rfl (cB (dT h_16)) <| jL 18 rfl (jh (v := .bool true) (cB (dT h_16)) rfl) <| jL 19 rfl (jD (v := .bool true) rfl) <| jd 20 (b := true) rfl (by kernel_rfl) (NP.th (NP.th NP.body)) (by kernel_rfl) (by kernel_rfl) rfl rfl rfl (cB rfl) <| jd 21 (b := true) rfl (by kernel_rfl) (NP.th (NP.th NP.body)) (by kernel_rfl) (by kernel_rfl) rfl rfl rfl (cB rfl) <| jd 22 (b := true) rfl (by kernel_rfl) (NP.th (NP.th NP.body)) (by kernel_rfl) (by kernel_rfl) rfl rfl rfl (cB rfl) <| jd 23 (b := true) rfl (by kernel_rfl) (NP.th (NP.th NP.body)) (by kernel_rfl) (by kernel_rfl) rfl rfl rfl (cB rfl) ?_
      refine jL 24 rfl (jh (v := .bool true) (cB rfl) rfl) <| kI (by kernel_rfl) <| jB <| jW (cB rfl) <| jC <| jF <| jK (jO 1 (vs := [.slice y_5.a y_5.l.length y_5.c, str y_5.jt, iv y_5.js]) rfl rfl ke kd rfl rfl) ?_
      refine jH rfl (ja 3 (vs := [.slice y_5.a y_5.l.length y_5.c, str y_5.jt, iv y_5.js]) (cs' := [.slice y_5.a y_5.l.length y_5.c, str y_5.jt, iv y_5.js]) rfl rfl rfl rfl kd rfl rfl (lb rfl) rfl) ?_
      rintro _ _ rfl
      refine jA (jG (v := .bool false) rfl) <| jE <| jB <| jN <| jX <| kM (pick_perm [2] (A := [Res.rows (rdsD y_5)]) (F := [bk b_12 60 [iv ((d.l.getD (1 - q) o0).t.seq), .slice ((d.l.getD (1 - q) o0).x.a0) ((d.l.getD (1 - q) o0).t.cells.length) ((d.l.getD (1 - q) o0).x.c0), .bool ((d.l.getD (1 - q) o0).t.whole)], bk b_7 31 [.slice y_5.a y_5.l.length y_5.c, str y_5.jt, iv y_5.js], bk b_4 31 [.slice y_5.a y_5.l.length y_5.c, str y_5.jt, iv y_5.js], bk b_3 31 [.slice d.a d.l.length d.c, str d.jt, iv d.js]]) rfl).symm <| kC (.inl rfl) rfl (kA (jO 3 (vs := [.slice y_5.a y_5.l.length y_5.c, str y_5.jt, iv y_5.js]) rfl rfl ke kd rfl rfl) ⟨_, rfl⟩) (jJ (v := .bool false) rfl) (tS 1 _) ?_
      have hoth : othD d.dat = (d.l.getD (1 - q) o0).t := by rw [othD, hq, Int.toNat_natCast]; exact getD_map'
      have he := foldE_no (d := d.dat) (by rw [hoth]; rintro ⟨h_1, h_2, h_3, h_4, h_5⟩; first | omega | simp_all)
      exact ⟨y_5, (hy_6).trans (congrArg Prod.fst he).symm, by rw [he], rfl⟩
    refine jg 14 rfl (by kernel_rfl) (NP.th (NP.th NP.body)) (by kernel_rfl) (by kernel_rfl) rfl rfl rfl (cB (dF h_16)) (jQ fo60_0 rfl) <| kK 15 rfl (by kernel_rfl) (NP.th (NP.th NP.body)) (by kernel_rfl) (by kernel_rfl) (by kernel_rfl) rfl rfl rfl (cB (dF h_16)) (jZ 0 (v := iv ((d.l.getD (1 - q) o0).t.seq)) rfl rfl kq rfl) <| jj (i := 16) ?_
    refine kQ rfl rfl rfl rfl (cB (dF h_16)) (jI [] Tryz.call76 rfl (Y_within ((d.l.getD (1 - q) o0).t.seq) 0 99999) rfl (fun _ _ => trivial)) ?_
    rintro _ _ ⟨_, ⟨rfl, rfl⟩, rfl⟩
    refine ⟨by simp, ?_⟩
    refine jg 17 rfl (by kernel_rfl) (NP.th (NP.th NP.body)) (by kernel_rfl) (by kernel_rfl) rfl rfl rfl (cB (dF h_16)) (jp rfl) <| jL 18 rfl (ji (v := .bool (!(within 0 ((d.l.getD (1 - q) o0).t.seq) 99999))) (cB (dF h_16)) rfl) <| jL 19 rfl (jD (v := .bool (!(within 0 ((d.l.getD (1 - q) o0).t.seq) 99999))) rfl) ?_
    rcases Bool.eq_false_or_eq_true (within 0 ((d.l.getD (1 - q) o0).t.seq) 99999) with h_17 | h_17
    · refine jg 20 rfl (by kernel_rfl) (NP.th (NP.th NP.body)) (by kernel_rfl) (by kernel_rfl) rfl rfl rfl (cB (cN h_17)) (jQ fo60_1 rfl) <| kK 21 rfl (by kernel_rfl) (NP.th (NP.th NP.body)) (by kernel_rfl) (by kernel_rfl) (by kernel_rfl) rfl rfl rfl (cB (cN h_17)) (jZ 0 (v := .slice ((d.l.getD (1 - q) o0).x.a0) ((d.l.getD (1 - q) o0).t.cells.length) ((d.l.getD (1 - q) o0).x.c0)) rfl rfl kz rfl) <| jj (i := 22) ?_
      refine kQ rfl rfl rfl rfl (cB (cN h_17)) (jI [] Tryz.call85 rfl (Y_implStoreOk (d.l.getD (1 - q) o0).x.a0 ((d.l.getD (1 - q) o0).x.c0) ((d.l.getD (1 - q) o0).t.cells) (hz.k1 _ (List.mem_map_of_mem (getD_mem (d := o0) (by omega)))).k0) rfl (fun w hw => hw.seeOut_ hs_11 nM)) ?_
      rintro _ _ ⟨_, ⟨rfl, rfl⟩, rfl⟩
      refine ⟨by simp, ?_⟩
      refine jg 23 rfl (by kernel_rfl) (NP.th (NP.th NP.body)) (by kernel_rfl) (by kernel_rfl) rfl rfl rfl (cB (cN h_17)) (jp rfl) <| jL 24 rfl (ji (v := .bool (!(storeOk ((d.l.getD (1 - q) o0).t.cells)))) (cB (cN h_17)) rfl) <| kI (by kernel_rfl) <| jB ?_
      rcases Bool.eq_false_or_eq_true (storeOk ((d.l.getD (1 - q) o0).t.cells)) with h_18 | h_18
      · refine jR (cB (cN h_18)) <| jT <| jB <| jC <| kT (L' := [Res.row (.slice y_5.a y_5.l.length y_5.c) 60 3 y_5.l.length (y_5.l.flatMap encO), Res.rows (y_5.l.flatMap rdsO), bk b_12 60 [iv ((d.l.getD (1 - q) o0).t.seq), .slice ((d.l.getD (1 - q) o0).x.a0) ((d.l.getD (1 - q) o0).t.cells.length) ((d.l.getD (1 - q) o0).x.c0), .bool ((d.l.getD (1 - q) o0).t.whole)], bk b_7 31 [.slice y_5.a y_5.l.length y_5.c, str y_5.jt, iv y_5.js], bk b_4 31 [.slice none 0 0, str [], iv 0], bk b_3 31 [.slice d.a d.l.length d.c, str d.jt, iv d.js]]) (fun w hw => hw.headR (r := ⟨.slice y_5.a y_5.l.length y_5.c, 60, 3, y_5.l.length, y_5.l.flatMap encO⟩) (A := y_5.l.flatMap rdsO) 2 rfl) <| jF <| jA (jQ fo31_0 rfl) <| jK (jZ 3 (v := .slice y_5.a y_5.l.length y_5.c) rfl rfl ks rfl) <| jA (jD (v := nv q) rfl) <| jA (kZ (c := ((1 - q : Nat) : Int)) rfl rfl (wr (by omega))) ?_
        refine kN fun hst => ?_
        obtain ⟨hr_19, hr_19b, -⟩ := row_some 0 rfl (by omega) hst
        refine jA (jk (i := (1 - q)) km kj hr_19 hr_19b rfl rfl (by omega)) <| jA (kL fo60_2 hr_19 rfl) ?_
        refine jH rfl (JO.storeR 0 (vs := [.bool true]) (cs' := (y_5.l.set (1 - q) (⟨⟨(y_5.l.getD (1 - q) o0).x.a0, ((y_5.l.getD (1 - q) o0).x.c0)⟩, ⟨(y_5.l.getD (1 - q) o0).t.seq, (y_5.l.getD (1 - q) o0).t.cells, true⟩⟩ : OX)).flatMap encO) rfl rfl rfl rfl Tryz.sizeOf4 rfl rfl (by decide) (by rw [flat_length encO_len]; omega) (flat_set1 encO_len o0 (f := 2) (y := (⟨⟨(y_5.l.getD (1 - q) o0).x.a0, ((y_5.l.getD (1 - q) o0).x.c0)⟩, ⟨(y_5.l.getD (1 - q) o0).t.seq, (y_5.l.getD (1 - q) o0).t.cells, true⟩⟩ : OX)) (by omega) (by decide) rfl)) ?_
        rintro _ _ rfl
        refine jE <| jB <| jC <| jF <| jK (jO 3 (vs := [.slice y_5.a y_5.l.length y_5.c, str y_5.jt, iv y_5.js]) rfl rfl ke kd rfl rfl) ?_
        refine jH rfl (ja 4 (vs := [.slice y_5.a y_5.l.length y_5.c, str y_5.jt, iv y_5.js]) (cs' := [.slice y_5.a y_5.l.length y_5.c, str y_5.jt, iv y_5.js]) rfl rfl rfl rfl kd rfl rfl (lb rfl) rfl) ?_
        rintro _ _ rfl
        refine jA (jG (v := .bool true) rfl) <| jE <| jB <| jN <| ju (L' := [Res.rows ((y_5.l.set (1 - q) (⟨⟨(y_5.l.getD (1 - q) o0).x.a0, ((y_5.l.getD (1 - q) o0).x.c0)⟩, ⟨(y_5.l.getD (1 - q) o0).t.seq, (y_5.l.getD (1 - q) o0).t.cells, true⟩⟩ : OX)).flatMap rdsO), Res.row (.slice y_5.a y_5.l.length y_5.c) 60 3 y_5.l.length ((y_5.l.set (1 - q) (⟨⟨(y_5.l.getD (1 - q) o0).x.a0, ((y_5.l.getD (1 - q) o0).x.c0)⟩, ⟨(y_5.l.getD (1 - q) o0).t.seq, (y_5.l.getD (1 - q) o0).t.cells, true⟩⟩ : OX)).flatMap encO), bk b_12 60 [iv ((d.l.getD (1 - q) o0).t.seq), .slice ((d.l.getD (1 - q) o0).x.a0) ((d.l.getD (1 - q) o0).t.cells.length) ((d.l.getD (1 - q) o0).x.c0), .bool ((d.l.getD (1 - q) o0).t.whole)], bk b_7 31 [.slice y_5.a y_5.l.length y_5.c, str y_5.jt, iv y_5.js], bk b_4 31 [.slice y_5.a y_5.l.length y_5.c, str y_5.jt, iv y_5.js], bk b_3 31 [.slice d.a d.l.length d.c, str d.jt, iv d.js]]) (fun w hw => hw.rowsEq 1 (A := y_5.l.flatMap rdsO) (B := (y_5.l.set (1 - q) (⟨⟨(y_5.l.getD (1 - q) o0).x.a0, ((y_5.l.getD (1 - q) o0).x.c0)⟩, ⟨(y_5.l.getD (1 - q) o0).t.seq, (y_5.l.getD (1 - q) o0).t.cells, true⟩⟩ : OX)).flatMap rdsO) (F := [Res.row (.slice y_5.a y_5.l.length y_5.c) 60 3 y_5.l.length ((y_5.l.set (1 - q) (⟨⟨(y_5.l.getD (1 - q) o0).x.a0, ((y_5.l.getD (1 - q) o0).x.c0)⟩, ⟨(y_5.l.getD (1 - q) o0).t.seq, (y_5.l.getD (1 - q) o0).t.cells, true⟩⟩ : OX)).flatMap encO), bk b_12 60 [iv ((d.l.getD (1 - q) o0).t.seq), .slice ((d.l.getD (1 - q) o0).x.a0) ((d.l.getD (1 - q) o0).t.cells.length) ((d.l.getD (1 - q) o0).x.c0), .bool ((d.l.getD (1 - q) o0).t.whole)], bk b_7 31 [.slice y_5.a y_5.l.length y_5.c, str y_5.jt, iv y_5.js], bk b_4 31 [.slice y_5.a y_5.l.length y_5.c, str y_5.jt, iv y_5.js], bk b_3 31 [.slice d.a d.l.length d.c, str d.jt, iv d.js]]) rfl (flatMap_sameO (l := y_5.l) (i := 1 - q) (x := (⟨⟨(y_5.l.getD (1 - q) o0).x.a0, ((y_5.l.getD (1 - q) o0).x.c0)⟩, ⟨(y_5.l.getD (1 - q) o0).t.seq, (y_5.l.getD (1 - q) o0).t.cells, true⟩⟩ : OX)) (by omega) rfl).symm) <| ju (L' := [Res.rows ((y_5.l.set (1 - q) (⟨⟨(y_5.l.getD (1 - q) o0).x.a0, ((y_5.l.getD (1 - q) o0).x.c0)⟩, ⟨(y_5.l.getD (1 - q) o0).t.seq, (y_5.l.getD (1 - q) o0).t.cells, true⟩⟩ : OX)).flatMap rdsO), Res.row (.slice y_5.a ((y_5.l.set (1 - q) (⟨⟨(y_5.l.getD (1 - q) o0).x.a0, ((y_5.l.getD (1 - q) o0).x.c0)⟩, ⟨(y_5.l.getD (1 - q) o0).t.seq, (y_5.l.getD (1 - q) o0).t.cells, true⟩⟩ : OX)).length) y_5.c) 60 3 ((y_5.l.set (1 - q) (⟨⟨(y_5.l.getD (1 - q) o0).x.a0, ((y_5.l.getD (1 - q) o0).x.c0)⟩, ⟨(y_5.l.getD (1 - q) o0).t.seq, (y_5.l.getD (1 - q) o0).t.cells, true⟩⟩ : OX)).length) ((y_5.l.set (1 - q) (⟨⟨(y_5.l.getD (1 - q) o0).x.a0, ((y_5.l.getD (1 - q) o0).x.c0)⟩, ⟨(y_5.l.getD (1 - q) o0).t.seq, (y_5.l.getD (1 - q) o0).t.cells, true⟩⟩ : OX)).flatMap encO), bk b_12 60 [iv ((d.l.getD (1 - q) o0).t.seq), .slice ((d.l.getD (1 - q) o0).x.a0) ((d.l.getD (1 - q) o0).t.cells.length) ((d.l.getD (1 - q) o0).x.c0), .bool ((d.l.getD (1 - q) o0).t.whole)], bk b_7 31 [.slice y_5.a y_5.l.length y_5.c, str y_5.jt, iv y_5.js], bk b_4 31 [.slice y_5.a y_5.l.length y_5.c, str y_5.jt, iv y_5.js], bk b_3 31 [.slice d.a d.l.length d.c, str d.jt, iv d.js]]) (fun w hw => hw.eqL (by simp only [List.length_set])) <| ju (L' := [Res.rows (rdsOS y_5.a y_5.c (y_5.l.set (1 - q) (⟨⟨(y_5.l.getD (1 - q) o0).x.a0, ((y_5.l.getD (1 - q) o0).x.c0)⟩, ⟨(y_5.l.getD (1 - q) o0).t.seq, (y_5.l.getD (1 - q) o0).t.cells, true⟩⟩ : OX))), bk b_12 60 [iv ((d.l.getD (1 - q) o0).t.seq), .slice ((d.l.getD (1 - q) o0).x.a0) ((d.l.getD (1 - q) o0).t.cells.length) ((d.l.getD (1 - q) o0).x.c0), .bool ((d.l.getD (1 - q) o0).t.whole)], bk b_7 31 [.slice y_5.a y_5.l.length y_5.c, str y_5.jt, iv y_5.js], bk b_4 31 [.slice y_5.a y_5.l.length y_5.c, str y_5.jt, iv y_5.js], bk b_3 31 [.slice d.a d.l.length d.c, str d.jt, iv d.js]]) (fun w hw => hw.consR (r := ⟨.slice y_5.a ((y_5.l.set (1 - q) (⟨⟨(y_5.l.getD (1 - q) o0).x.a0, ((y_5.l.getD (1 - q) o0).x.c0)⟩, ⟨(y_5.l.getD (1 - q) o0).t.seq, (y_5.l.getD (1 - q) o0).t.cells, true⟩⟩ : OX)).length) y_5.c, 60, 3, (y_5.l.set (1 - q) (⟨⟨(y_5.l.getD (1 - q) o0).x.a0, ((y_5.l.getD (1 - q) o0).x.c0)⟩, ⟨(y_5.l.getD (1 - q) o0).t.seq, (y_5.l.getD (1 - q) o0).t.cells, true⟩⟩ : OX)).length, (y_5.l.set (1 - q) (⟨⟨(y_5.l.getD (1 - q) o0).x.a0, ((y_5.l.getD (1 - q) o0).x.c0)⟩, ⟨(y_5.l.getD (1 - q) o0).t.seq, (y_5.l.getD (1 - q) o0).t.cells, true⟩⟩ : OX)).flatMap encO⟩) (A := (y_5.l.set (1 - q) (⟨⟨(y_5.l.getD (1 - q) o0).x.a0, ((y_5.l.getD (1 - q) o0).x.c0)⟩, ⟨(y_5.l.getD (1 - q) o0).t.seq, (y_5.l.getD (1 - q) o0).t.cells, true⟩⟩ : OX)).flatMap rdsO) [1, 0] rfl) <| kC (.inl rfl) rfl (kA (jO 3 (vs := [.slice y_5.a y_5.l.length y_5.c, str y_5.jt, iv y_5.js]) rfl rfl ke kd rfl rfl) ⟨_, rfl⟩) (jJ (v := .bool true) rfl) (tS 1 _) ?_
        have hoth : othD d.dat = (d.l.getD (1 - q) o0).t := by rw [othD, hq, Int.toNat_natCast]; exact getD_map'
        have he := foldE_yes (d := d.dat) (by rw [hoth]; exact ⟨h_8, by assumption, by omega, by assumption, by assumption⟩)
        rw [hoth] at he
        refine ⟨(⟨y_5.a, y_5.c, y_5.l.set (1 - q) (⟨⟨(y_5.l.getD (1 - q) o0).x.a0, ((y_5.l.getD (1 - q) o0).x.c0)⟩, ⟨(y_5.l.getD (1 - q) o0).t.seq, (y_5.l.getD (1 - q) o0).t.cells, true⟩⟩ : OX), y_5.jt, y_5.js⟩ : DX), ?_, by simp only [he, List.length_set], rfl⟩
        rw [he]
        have hg : (y_5.l.getD (1 - q) o0).t = (d.l.getD (1 - q) o0).t := getM_eq (f := OX.t) o0 (congrArg DD.slots hy_6) (by omega) hyl
        exact fold_dat (congrArg DD.slots hy_6) (congrArg DD.jt hy_6) (congrArg DD.js hy_6) hq (by rw [← hg])
      refine jW (cB (cN h_18)) <| jC <| jF <| jK (jO 1 (vs := [.slice y_5.a y_5.l.length y_5.c, str y_5.jt, iv y_5.js]) rfl rfl ke kd rfl rfl) ?_
      refine jH rfl (ja 3 (vs := [.slice y_5.a y_5.l.length y_5.c, str y_5.jt, iv y_5.js]) (cs' := [.slice y_5.a y_5.l.length y_5.c, str y_5.jt, iv y_5.js]) rfl rfl rfl rfl kd rfl rfl (lb rfl) rfl) ?_
      rintro _ _ rfl
      refine jA (jG (v := .bool false) rfl) <| jE <| jB <| jN <| jX <| kM (pick_perm [2] (A := [Res.rows (rdsD y_5)]) (F := [bk b_12 60 [iv ((d.l.getD (1 - q) o0).t.seq), .slice ((d.l.getD (1 - q) o0).x.a0) ((d.l.getD (1 - q) o0).t.cells.length) ((d.l.getD (1 - q) o0).x.c0), .bool ((d.l.getD (1 - q) o0).t.whole)], bk b_7 31 [.slice y_5.a y_5.l.length y_5.c, str y_5.jt, iv y_5.js], bk b_4 31 [.slice y_5.a y_5.l.length y_5.c, str y_5.jt, iv y_5.js], bk b_3 31 [.slice d.a d.l.length d.c, str d.jt, iv d.js]]) rfl).symm <| kC (.inl rfl) rfl (kA (jO 3 (vs := [.slice y_5.a y_5.l.length y_5.c, str y_5.jt, iv y_5.js]) rfl rfl ke kd rfl rfl) ⟨_, rfl⟩) (jJ (v := .bool false) rfl) (tS 1 _) ?_
      have hoth : othD d.dat = (d.l.getD (1 - q) o0).t := by rw [othD, hq, Int.toNat_natCast]; exact getD_map'
      have he := foldE_no (d := d.dat) (by rw [hoth]; rintro ⟨h_1, h_2, h_3, h_4, h_5⟩; first | omega | simp_all)
      exact ⟨y_5, (hy_6).trans (congrArg Prod.fst he).symm, by rw [he], rfl⟩
    refine jd 20 (b := true) rfl (by kernel_rfl) (NP.th (NP.th NP.body)) (by kernel_rfl) (by kernel_rfl) rfl rfl rfl (cB (cN h_17)) <| jd 21 (b := true) rfl (by kernel_rfl) (NP.th (NP.th NP.body)) (by kernel_rfl) (by kernel_rfl) rfl rfl rfl (cB (cN h_17)) <| jd 22 (b := true) rfl (by kernel_rfl) (NP.th (NP.th NP.body)) (by kernel_rfl) (by kernel_rfl) rfl rfl rfl (cB (cN h_17)) <| jd 23 (b := true) rfl (by kernel_rfl) (NP.th (NP.th NP.body)) (by kernel_rfl) (by kernel_rfl) rfl rfl rfl (cB (cN h_17)) <| jL 24 rfl (jh (v := .bool true) (cB (cN h_17)) rfl) <| kI (by kernel_rfl) <| jB <| jW (cB rfl) <| jC <| jF ?_
    refine jK (jO 1 (vs := [.slice y_5.a y_5.l.length y_5.c, str y_5.jt, iv y_5.js]) rfl rfl ke kd rfl rfl) ?_
    refine jH rfl (ja 3 (vs := [.slice y_5.a y_5.l.length y_5.c, str y_5.jt, iv y_5.js]) (cs' := [.slice y_5.a y_5.l.length y_5.c, str y_5.jt, iv y_5.js]) rfl rfl rfl rfl kd rfl rfl (lb rfl) rfl) ?_
    rintro _ _ rfl
    refine jA (jG (v := .bool false) rfl) <| jE <| jB <| jN <| jX <| kM (pick_perm [2] (A := [Res.rows (rdsD y_5)]) (F := [bk b_12 60 [iv ((d.l.getD (1 - q) o0).t.seq), .slice ((d.l.getD (1 - q) o0).x.a0) ((d.l.getD (1 - q) o0).t.cells.length) ((d.l.getD (1 - q) o0).x.c0), .bool ((d.l.getD (1 - q) o0).t.whole)], bk b_7 31 [.slice y_5.a y_5.l.length y_5.c, str y_5.jt, iv y_5.js], bk b_4 31 [.slice y_5.a y_5.l.length y_5.c, str y_5.jt, iv y_5.js], bk b_3 31 [.slice d.a d.l.length d.c, str d.jt, iv d.js]]) rfl).symm <| kC (.inl rfl) rfl (kA (jO 3 (vs := [.slice y_5.a y_5.l.length y_5.c, str y_5.jt, iv y_5.js]) rfl rfl ke kd rfl rfl) ⟨_, rfl⟩) (jJ (v := .bool false) rfl) (tS 1 _) ?_
    have hoth : othD d.dat = (d.l.getD (1 - q) o0).t := by rw [othD, hq, Int.toNat_natCast]; exact getD_map'
    have he := foldE_no (d := d.dat) (by rw [hoth]; rintro ⟨h_1, h_2, h_3, h_4, h_5⟩; first | omega | simp_all)
    exact ⟨y_5, (hy_6).trans (congrArg Prod.fst he).symm, by rw [he], rfl⟩
  refine jW (cB (cN h_8)) <| jC <| jF <| jK (jO 0 (vs := [.slice y_5.a y_5.l.length y_5.c, str y_5.jt, iv y_5.js]) rfl rfl ke kd rfl rfl) ?_
  refine jH rfl (ja 2 (vs := [.slice y_5.a y_5.l.length y_5.c, str y_5.jt, iv y_5.js]) (cs' := [.slice y_5.a y_5.l.length y_5.c, str y_5.jt, iv y_5.js]) rfl rfl rfl rfl kd rfl rfl (lb rfl) rfl) ?_
  rintro _ _ rfl
  refine jA (jG (v := .bool false) rfl) <| jE <| jB <| jN <| jX <| kM (pick_perm [1] (A := [Res.rows (rdsD y_5)]) (F := [bk b_7 31 [.slice y_5.a y_5.l.length y_5.c, str y_5.jt, iv y_5.js], bk b_4 31 [.slice y_5.a y_5.l.length y_5.c, str y_5.jt, iv y_5.js], bk b_3 31 [.slice d.a d.l.length d.c, str d.jt, iv d.js]]) rfl).symm <| kC (.inl rfl) rfl (kA (jO 2 (vs := [.slice y_5.a y_5.l.length y_5.c, str y_5.jt, iv y_5.js]) rfl rfl ke kd rfl rfl) ⟨_, rfl⟩) (jJ (v := .bool false) rfl) (tS 1 _) ?_
  have he := foldE_no (d := d.dat) (by rintro ⟨h_1, h_2, h_3, h_4, h_5⟩; first | omega | simp_all)
  exact ⟨y_5, (hy_6).trans (congrArg Prod.fst he).symm, by rw [he], rfl⟩

end Go.Proofs.YtjncpgcccgdeiaaGreatDoor

set_option linter.unusedSimpArgs false
set_option linter.unusedVariables false
set_option linter.unnecessarySimpa false
namespace Go.Proofs.YtjncpgcccgdeiaaGreatDoor
open Go Go.RowKit
/- lines -/
def isLine (x : Str) : Prop := ∃ a : Str, (∀ c ∈ a, c ≠ 10) ∧ x = a ++ [10]
theorem lines_flat : ∀ (L : List Str) (r : Str), (∀ x ∈ L, isLine x) → (∀ c ∈ r, c ≠ 10) → linesOf (L.flatten ++ r) = L
  | [], r, _, h => lines_no h
  | x :: L, r, hx, hr => by
    obtain ⟨a, ha, rfl⟩ := hx x (List.mem_cons_self ..)
    have e : ((a ++ [10]) :: L).flatten ++ r = a ++ 10 :: (L.flatten ++ r) := by simp
    have ih := lines_flat L r (fun y hy => hx y (List.mem_cons_of_mem _ hy)) hr
    unfold linesOf at *
    rw [e, linesG_app [] _ ha, ih]
    simp
theorem lines_parts : ∀ (n : Nat) (t : Str), t.length ≤ n → ∃ r, t = (linesOf t).flatten ++ r ∧ (∀ c ∈ r, c ≠ 10) ∧ ∀ x ∈ linesOf t, isLine x
  | 0, t, h => by
    have : t = [] := List.length_eq_zero_iff.1 (by omega)
    subst this
    exact ⟨[], rfl, (fun _ h => by cases h), fun _ h => by cases h⟩
  | n + 1, t, h => by
    rcases ix_cases 10 t with ⟨_, hn⟩ | ⟨i, _, hi, hN, hc⟩
    · exact ⟨t, by rw [lines_no hn]; rfl, hn, by rw [lines_no hn]; exact fun _ h => by cases h⟩
    · obtain ⟨r, h1, h2, h3⟩ := lines_parts n (t.drop (i + 1)) (by rw [List.length_drop]; omega)
      refine ⟨r, ?_, h2, ?_⟩
      · rw [lines_first hi hN hc, List.flatten_cons, List.append_assoc, ← h1, List.take_append_drop]
      · rw [lines_first hi hN hc]
        intro x hx
        rcases List.mem_cons.1 hx with rfl | hx
        · refine ⟨t.take i, front_no (by omega) hN, ?_⟩
          rw [take_at (getD_some (d := 0) hi), hc]
        · exact h3 x hx
theorem sumLen_flat : ∀ L : List Str, sumLen L = L.flatten.length
  | [] => rfl
  | x :: L => by
    have := sumLen_flat L
    simp only [sumLen, List.foldr_cons, List.flatten_cons, List.length_append] at *
    omega
theorem lines_drop (t : Str) (k : Nat) : linesOf (t.drop (sumLen ((linesOf t).take k))) = (linesOf t).drop k := by
  obtain ⟨r, h1, h2, h3⟩ := lines_parts t.length t (Nat.le_refl _)
  have e : t.drop (sumLen ((linesOf t).take k)) = ((linesOf t).drop k).flatten ++ r := by
    rw [sumLen_flat]
    have h4 : t = ((linesOf t).take k).flatten ++ (((linesOf t).drop k).flatten ++ r) := by
      rw [← List.append_assoc, ← List.flatten_append, List.take_append_drop]; exact h1
    generalize ((linesOf t).take k).flatten = A at h4 ⊢
    generalize ((linesOf t).drop k).flatten = B at h4 ⊢
    rw [h4, List.drop_append_of_le_length (Nat.le_refl _), List.drop_length, List.nil_append]
  rw [e]
  exact lines_flat _ r (fun x hx => h3 x (List.mem_of_mem_drop hx)) h2
theorem trimN_k (most : Int) : ∀ L : List Str, ∃ k, trimN most L = sumLen (L.take k) ∧ (recsG (most + 1) 0 (L.drop k)).1 = (recsG (most + 1) 0 L).1
  | [] => ⟨0, rfl, rfl⟩
  | x :: L => by
    by_cases h : (readI x).2.2 = false ∨ most < (readI x).1
    · exact ⟨0, by rw [trimN, if_pos h]; rfl, rfl⟩
    · obtain ⟨k, k1, k2⟩ := trimN_k most L
      refine ⟨k + 1, by rw [trimN, if_neg h, List.take_succ_cons, k1]; rfl, ?_⟩
      rw [List.drop_succ_cons, k2, recsG, if_neg (fun e => h (.inl e)), if_pos ⟨rfl, by have := fun e => h (.inr e); omega⟩]
theorem recs_trim (t : Str) (most : Int) : (recsOf (t.drop (trimN most (linesOf t))) (most + 1)).1 = (recsOf t (most + 1)).1 := by
  unfold recsOf
  by_cases hw : within 1 (most + 1) 100000 = true
  · rw [if_pos hw, if_pos hw]
    obtain ⟨k, k1, k2⟩ := trimN_k most (linesOf t)
    rw [k1, lines_drop, k2]
  · rw [if_neg hw, if_neg hw]
/- two slots -/
theorem slots_two {d : DD} (h : diskOk d = true) : ∃ a b, d.slots = [a, b] := by
  have h2 : d.slots.length = 2 := by
    unfold diskOk diskOkF at h
    simp only [Bool.and_eq_true, decide_eq_true_eq] at h
    omega
  match hs : d.slots, h2 with
  | [a, b], _ => exact ⟨a, b, rfl⟩
theorem rall_two (p : Nat → Bool) : rall 2 p = (p 0 && p 1) := by simp [rall, List.range_succ]
theorem diskOk2 {a b : SD} {t : Str} {j : Int} : diskOk ⟨[a, b], t, j⟩ = true ↔ (a.whole = true ∨ b.whole = true) ∧ slotG a = true ∧ slotG b = true ∧ jourOk t j = true := by
  show diskOkF 2 (fun i => ([a, b] : List SD).getD i o0.t) t j = true ↔ _
  unfold diskOkF
  rw [rall_two, rall_two]
  show (decide (((2 : Nat) : Int) = 2) && ((!((!a.whole) && (!b.whole))) && ((slotG a && slotG b) && jourOk t j))) = true ↔ _
  cases a.whole <;> cases b.whole <;> cases slotG a <;> cases slotG b <;> cases jourOk t j <;> simp
theorem bestD2 {a b : SD} {t : Str} {j : Int} : bestD ⟨[a, b], t, j⟩ = if b.whole = true ∧ (¬ a.whole = true ∨ a.seq < b.seq) then 1 else if a.whole = true then 0 else -1 := by
  have e1 : bestF (fun i => ([a, b] : List SD).getD i o0.t) 1 = if a.whole = true then 0 else -1 := by
    simp [bestF]
  unfold bestD
  show bestF (fun i => ([a, b] : List SD).getD i o0.t) (1 + 1) = _
  rw [bestF, e1]
  by_cases ha : a.whole = true
  · simp [ha]
  · simp [ha]
end Go.Proofs.YtjncpgcccgdeiaaGreatDoor

set_option linter.unusedSimpArgs false
set_option linter.unusedVariables false
set_option linter.unnecessarySimpa false
namespace Go.Proofs.YtjncpgcccgdeiaaGreatDoor
open Go Go.RowKit
/- a fall -/
def slotF (x : SD) : SD := if x.whole = true then x else ⟨0, [], false⟩
def fallN (t : Str) (js keep : Int) : Nat := js.toNat + bro keep (t.length - js.toNat)
def DD.fall (d : DD) (keep : Int) : DD := if diskOk d = true then ⟨d.slots.map slotF, d.jt.take (fallN d.jt d.js keep), ((fallN d.jt d.js keep : Nat) : Int)⟩ else d
/- the best of two -/
def bst (a b : SD) : SD := if b.whole = true ∧ (¬ a.whole = true ∨ a.seq < b.seq) then b else a
theorem best2 {a b : SD} {t : Str} {j : Int} (h : a.whole = true ∨ b.whole = true) : (DD.slots ⟨[a, b], t, j⟩).getD (bestD ⟨[a, b], t, j⟩).toNat o0.t = bst a b := by
  rw [bestD2]
  unfold bst
  split
  · rfl
  · rename_i h1
    split
    · rfl
    · rename_i h2
      exfalso
      rcases h with h | h
      · exact h2 h
      · exact h1 ⟨h, .inl h2⟩
theorem most2 {a b : SD} {t : Str} {j : Int} (h : a.whole = true ∨ b.whole = true) : mostOf ⟨[a, b], t, j⟩ = (bst a b).seq := congrArg SD.seq (best2 h)
theorem bst_not_left {x b : SD} (hx : x.whole = false) (hb : b.whole = true) : bst x b = b := by
  unfold bst
  rw [if_pos ⟨hb, .inl (by rw [hx]; decide)⟩]
theorem bst_not_right {a x : SD} (hx : x.whole = false) : bst a x = a := by
  unfold bst
  rw [if_neg]
  rintro ⟨h, _⟩
  rw [hx] at h
  cases h
theorem bst_more_right {a x : SD} (hx : x.whole = true) (hs : a.seq < x.seq) : bst a x = x := by
  unfold bst
  rw [if_pos ⟨hx, .inr hs⟩]
theorem recov2 {a b : SD} {t : Str} {j : Int} (h : diskOk ⟨[a, b], t, j⟩ = true) : DD.recov ⟨[a, b], t, j⟩ = (applyAll (bst a b).cells (recsOf t ((bst a b).seq + 1)).1, (bst a b).seq + (((recsOf t ((bst a b).seq + 1)).1.length : Nat) : Int)) := by
  have hw := (diskOk2.1 h).1
  rw [DD.recov, if_pos h, recD, best2 hw, most2 hw]
theorem jour_le {t : Str} {j : Int} (h : jourOk t j = true) : t.length ≤ 20000 ∧ 0 ≤ j ∧ j ≤ ((t.length : Nat) : Int) := by
  simp only [jourOk, within, Bool.and_eq_true, decide_eq_true_eq] at h
  exact ⟨by omega, h.2.1, h.2.2⟩
theorem jour_mk {t : Str} {j : Int} (h : t.length ≤ 20000) (h0 : 0 ≤ j) (h1 : j ≤ ((t.length : Nat) : Int)) : jourOk t j = true := by
  simp only [jourOk, within, Bool.and_eq_true, decide_eq_true_eq]
  exact ⟨by omega, h0, h1⟩
/-- A disk that holds what d holds, all of it sure. -/
structure Full (s : List Cell) (n : Int) (e : DD) : Prop where
  ok : diskOk e = true
  rec_ : e.recov = (s, n)
  sure : e.js = ((e.jt.length : Nat) : Int)
theorem disk_ab {d : DD} (h : diskOk d = true) : ∃ a b t j, d = ⟨[a, b], t, j⟩ := by
  obtain ⟨a, b, hs⟩ := slots_two h
  exact ⟨a, b, d.jt, d.js, by cases d; simp only at hs; rw [hs]⟩
/- what a journal holds behind its records -/
theorem within_of {a b c : Int} (h1 : a ≤ b) (h2 : b ≤ c) : within a b c = true := by
  simp only [within, Bool.and_eq_true, decide_eq_true_eq]
  exact ⟨h1, h2⟩
/- a checkpoint begun -/
theorem othD2 {a b : SD} {t : Str} {j : Int} : (b.whole = true → bst a b = b → a.whole = false → othD ⟨[a, b], t, j⟩ = a) ∧ (a.whole = true → b.whole = false → othD ⟨[a, b], t, j⟩ = b) := by
  constructor
  · intro h1 h2 h3
    unfold othD
    rw [bestD2, if_pos ⟨h1, .inl (by rw [h3]; decide)⟩]
    rfl
  · intro h1 h2
    unfold othD
    rw [bestD2, if_neg (by rintro ⟨h, _⟩; rw [h2] at h; cases h), if_pos h1]
    rfl
theorem trim_full {e : DD} {s : List Cell} {n : Int} (h : Full s n e) : Full s n e.trim := by
  obtain ⟨hok, hr, hs⟩ := h
  obtain ⟨a, b, t, j, rfl⟩ := disk_ab hok
  obtain ⟨hw, ha, hb, hj⟩ := diskOk2.1 hok
  have hl := jour_le hj
  have hle : trimL ⟨[a, b], t, j⟩ ≤ t.length := trimN_le _ _
  have hs' : j = ((t.length : Nat) : Int) := hs
  rw [DD.trim, if_pos hok]
  have hbro : bro (j - ((trimL ⟨[a, b], t, j⟩ : Nat) : Int)) (t.drop (trimL ⟨[a, b], t, j⟩)).length = (t.drop (trimL ⟨[a, b], t, j⟩)).length := by
    unfold bro
    rw [List.length_drop]
    omega
  show Full s n ⟨[a, b], t.drop (trimL ⟨[a, b], t, j⟩), ((bro (j - ((trimL ⟨[a, b], t, j⟩ : Nat) : Int)) (t.drop (trimL ⟨[a, b], t, j⟩)).length : Nat) : Int)⟩
  rw [hbro]
  have hok2 : diskOk ⟨[a, b], t.drop (trimL ⟨[a, b], t, j⟩), (((t.drop (trimL ⟨[a, b], t, j⟩)).length : Nat) : Int)⟩ = true := diskOk2.2 ⟨hw, ha, hb, jour_mk (by rw [List.length_drop]; omega) (by omega) (Int.le_refl _)⟩
  refine ⟨hok2, ?_, rfl⟩
  rw [recov2 hok2, ← hr, recov2 hok, trimL, most2 hw, recs_trim]
theorem slotF_bst {a b : SD} (h : a.whole = true ∨ b.whole = true) : bst (slotF a) (slotF b) = bst a b := by
  unfold slotF
  by_cases ha : a.whole = true
  · rw [if_pos ha]
    by_cases hb : b.whole = true
    · rw [if_pos hb]
    · rw [if_neg hb, bst_not_right rfl, bst_not_right (by simpa using hb)]
  · rw [if_neg ha]
    have hb : b.whole = true := h.resolve_left ha
    rw [if_pos hb, bst_not_left rfl hb, bst_not_left (by simpa using ha) hb]
theorem slotF_G {a : SD} (h : slotG a = true) : slotG (slotF a) = true := by
  unfold slotF
  split
  · exact h
  · rfl
theorem slotF_whole {a : SD} : (slotF a).whole = a.whole := by
  unfold slotF
  split
  · rfl
  · rename_i h
    have h' : a.whole = false := by simpa using h
    rw [h']
theorem fallN_le {t : Str} {j : Int} (keep : Int) (h : 0 ≤ j) (h2 : j ≤ ((t.length : Nat) : Int)) : fallN t j keep ≤ t.length := by
  have := bro_le keep (t.length - j.toNat)
  unfold fallN
  omega
theorem fall_ok {d : DD} (h : diskOk d = true) (keep : Int) : diskOk (d.fall keep) = true := by
  obtain ⟨a, b, t, j, rfl⟩ := disk_ab h
  obtain ⟨hw, ha, hb, hj⟩ := diskOk2.1 h
  have hl := jour_le hj
  have hn := fallN_le (t := t) keep hl.2.1 hl.2.2
  rw [DD.fall, if_pos h]
  show diskOk ⟨[slotF a, slotF b], t.take (fallN t j keep), ((fallN t j keep : Nat) : Int)⟩ = true
  refine diskOk2.2 ⟨by rw [slotF_whole, slotF_whole]; exact hw, slotF_G ha, slotF_G hb, jour_mk (by rw [List.length_take]; omega) (by omega) (by rw [List.length_take]; omega)⟩
theorem fall_not {d : DD} (h : diskOk d = false) (keep : Int) : d.fall keep = d := by rw [DD.fall, if_neg (by rw [h]; exact Bool.false_ne_true)]
theorem fall_full {e : DD} {s : List Cell} {n : Int} (h : Full s n e) : Full s n (e.fall 0) := by
  have hok2 := fall_ok h.ok 0
  obtain ⟨hok, hr, hs⟩ := h
  obtain ⟨a, b, t, j, rfl⟩ := disk_ab hok
  obtain ⟨hw, ha, hb, hj⟩ := diskOk2.1 hok
  have hs' : j = ((t.length : Nat) : Int) := hs
  have hn : fallN t j 0 = t.length := by
    unfold fallN bro
    omega
  have he : DD.fall ⟨[a, b], t, j⟩ 0 = ⟨[slotF a, slotF b], t, ((t.length : Nat) : Int)⟩ := by
    rw [DD.fall, if_pos hok]
    show (⟨[slotF a, slotF b], t.take (fallN t j 0), ((fallN t j 0 : Nat) : Int)⟩ : DD) = _
    rw [hn, List.take_length]
  rw [he] at hok2 ⊢
  exact ⟨hok2, by rw [recov2 hok2, slotF_bst hw, ← hr, recov2 hok], rfl⟩
end Go.Proofs.YtjncpgcccgdeiaaGreatDoor

set_option linter.unusedSimpArgs false
set_option linter.unusedVariables false
set_option linter.unnecessarySimpa false
namespace Go.Proofs.YtjncpgcccgdeiaaGreatDoor
open Go Go.RowKit
theorem cellUnder : Tryz.prog.underlying 48 = some (.struct (Tryz.prog.fieldsOf 48)) := by kernel_rfl
section
variable {n : Nat} {e : Env} {d : Option Tmp} {ty : TypeId} {pos : String} {aft : Array Edge} {gd : Option (Nat × Bool)}
theorem PO.neqCell {x y : Operand} {a b : Cell} {u : TypeId} (hx : rd n e x = .agg #[str a.1, str a.2]) (hy : rd n e y = .agg #[str b.1, str b.2]) : PO Tryz.prog n e ⟨d, .binOp .neq 48 x y u, ty, pos, aft, gd⟩ (.bool (!decide (a = b))) := fun w => by
  have he : (Op.equalIn 10000 48 (.agg #[str a.1, str a.2]) (.agg #[str b.1, str b.2])).run Tryz.prog w = .ok (decide (a = b)) w := by
    rw [run_equalIn_struct w 9999 48 _ _ cellUnder Tryz.stoodInHeld48]
    rw [show (Tryz.prog.fieldsOf 48).toList = [⟨ "Key", 9, 0, false, "", "", 0⟩, ⟨ "Val", 9, 1, false, "", "", 16⟩] by kernel_rfl]
    have e1 : (Op.equalIn 9999 9 (str a.1) (str b.1)).run Tryz.prog w = .ok (decide (a.1 = b.1)) w := by
      simp only [str]
      rw [run_equalIn_string w 9998 9 _ _ kg]
      simp [beq_dec]
    have e2 : (Op.equalIn 9999 9 (str a.2) (str b.2)).run Tryz.prog w = .ok (decide (a.2 = b.2)) w := by
      simp only [str]
      rw [run_equalIn_string w 9998 9 _ _ kg]
      simp [beq_dec]
    have p1 : ∀ c : Cell, (part 9 #[str c.1, str c.2] 0).run Tryz.prog w = .ok (str c.1) w := fun c => by simp [part, str]
    have p2 : ∀ c : Cell, (part 9 #[str c.1, str c.2] 1).run Tryz.prog w = .ok (str c.2) w := fun c => by simp [part, str]
    simp only [Op.eqFields, Sem.run_bind, p1, p2, e1, e2, Result.andThen_ok, ne_eq, Sem.run_ite, Sem.run_pure]
    obtain ⟨a1, a2⟩ := a
    obtain ⟨b1, b2⟩ := b
    by_cases h1 : a1 = b1 <;> by_cases h2 : a2 = b2 <;> simp [h1, h2, Prod.mk.injEq]

  simp only [execOp, hx, hy, Sem.run_bind, run_eqGuard_agg w .neq 48 x y _ _ Tryz.eqGuardType48, Result.andThen_ok, run_neq_struct, he, Sem.run_pure]
end
attribute [local irreducible] JL JC JQ JO LO PO JA JX Ct

theorem C_sameCells (a b : Option Addr) (c c' : Nat) (s t : List Cell) (hn : s.length ≤ 9223372036854775807) :
    Ct Tryz.prog 34 [.slice a s.length c, .slice b t.length c'] [] (fun w => Sees w (.slice a s.length c) 2 s.length (s.flatMap encC) ∧ Sees w (.slice b t.length c') 2 t.length (t.flatMap encC)) (fun r A' => r = .bool (decide (s = t)) ∧ A' = []) := by
  refine Ct.intro Tryz.func34 rfl Tryz.ntmps34 (lb rfl) fun w0 hpre => ?_
  have hs_a : Sees w0 _ _ _ _ := hpre.1
  have hs_b : Sees w0 _ _ _ _ := hpre.2
  refine jC <| jF <| jA (jG (v := .bool false) rfl) <| jE <| jB <| jC <| jC <| jF <| jA (jD (v := .slice a s.length c) rfl) <| jA (jr kf rfl) ?_
  refine jA (jD (v := .slice b t.length c') rfl) <| jA (jr kf rfl) <| jA (kS rfl rfl) <| jE <| jB ?_
  by_cases h_1 : ((s.length : Nat) : Int) = ((t.length : Nat) : Int)
  · have hlen := h_1
    refine jR (cB (cN (dT h_1))) <| jT <| jB <| jC <| jC <| jF <| jA (jG (v := iv 0) rfl) <| jE <| jB <| jf ?_
    refine kD (fun k_ e_ L_ => ∃ j : Nat, (j ≤ s.length) ∧ (s.take j = t.take j) ∧ (s.length = t.length) ∧ e_ 0 = .slice a s.length c ∧ e_ 1 = .slice b t.length c' ∧ e_ 5 = nv j ∧ L_ = [] ∧ k_ = s.length - j) _ ⟨0, by omega, rfl, by omega, rfl, rfl, rfl, rfl, rfl⟩ ?_
    rintro _ e_2 _ ⟨j, hj, hE, hln, he_3, he_4, he_5, rfl, rfl⟩
    refine jC <| jC <| jF <| jA (jD (v := nv j) he_5) <| jA (jD (v := .slice a s.length c) he_3) <| jA (jr kf rfl) <| jA (jl rfl rfl) <| jE <| jB ?_
    by_cases h_6 : ((j : Nat) : Int) < ((s.length : Nat) : Int)
    · have hlt : j < s.length := by omega
      refine jW (cB (dT h_6)) <| jT <| jB <| jC <| jf <| jC <| kJ [] 8 mixed (by simp) <| jL 0 rfl (jD (v := .slice a s.length c) he_3) <| jL 1 rfl (jD (v := nv j) he_5) ?_
      obtain ⟨hr_7, hr_7b, -⟩ := sees_some hs_a (by omega)
      refine jL 2 rfl (jk (i := j) kf kh hr_7 hr_7b rfl rfl (by omega)) <| jw 3 rfl (kX (vs := [str ((s.getD j c0).1), str ((s.getD j c0).2)]) hs_a nM rfl gG kh (atC (by omega)) rfl (by decide)) <| jL 4 rfl (jD (v := .slice b t.length c') he_4) <| jL 5 rfl (jD (v := nv j) he_5) ?_
      obtain ⟨hr_8, hr_8b, -⟩ := sees_some hs_b (by omega)
      refine jL 6 rfl (jk (i := j) kf kh hr_8 hr_8b rfl rfl (by omega)) <| jw 7 rfl (kX (vs := [str ((t.getD j c0).1), str ((t.getD j c0).2)]) hs_b nM rfl gG kh (atC (by omega)) rfl (by decide)) <| jL 8 rfl (PO.neqCell (a := s.getD j c0) (b := t.getD j c0) rfl rfl) <| kI (by kernel_rfl) <| jB ?_
      by_cases h_9 : s.getD j c0 = t.getD j c0
      · have heq := h_9
        refine jR (cB (cN (dT h_9))) <| jT <| jm <| jB <| jF <| jA (jD (v := nv j) he_5) <| jA (jc (c := ((j + 1 : Nat) : Int)) rfl rfl (wr (by omega))) <| jA (jG (v := iv ((j + 1 : Nat) : Int)) rfl) <| jE ?_
        refine jq (s.length - (j + 1)) (by omega) ⟨j + 1, by omega, take_succ_eq c0 hE hlt hln heq, hln, he_3, he_4, rfl, rfl, rfl⟩
      have hne := h_9
      refine jW (cB (cN (dF h_9))) <| jC <| jF <| jA (jG (v := .bool false) rfl) <| jE <| jB <| jN <| jv <| jX <| jX ?_
      refine jv <| jX <| jV (.inl rfl) rfl (jJ (v := .bool false) rfl) (List.nil_sublist _) ?_
      refine ⟨?_, rfl⟩
      rw [dF (fun h => hne (by rw [h]))]
    refine jR (cB (dF h_6)) <| jx <| jb <| jb <| jy <| jB <| jC <| jF <| jA (jG (v := .bool true) rfl) <| jE ?_
    refine jB <| jN <| jV (.inl rfl) rfl (jJ (v := .bool true) rfl) (List.nil_sublist _) ?_
    refine ⟨?_, rfl⟩
    rw [dT (take_all_eq hE (by omega) (by omega))]
  have hlen := h_1
  refine jW (cB (cN (dF h_1))) <| jC <| jF <| jA (jG (v := .bool false) rfl) <| jE <| jB <| jN <| jX <| jV (.inl rfl) rfl (jJ (v := .bool false) rfl) (List.nil_sublist _) ?_
  refine ⟨?_, rfl⟩
  rw [dF (fun h => by rw [h] at hlen; omega)]

end Go.Proofs.YtjncpgcccgdeiaaGreatDoor

set_option linter.unusedSimpArgs false
set_option linter.unusedVariables false
set_option linter.unnecessarySimpa false
namespace Go.Proofs.YtjncpgcccgdeiaaGreatDoor
open Go Go.RowKit
def addT (t : Str) (js : Int) (u : Str) : Str × Bool := if jourOk t js = true ∧ t.length + u.length ≤ 20000 then (t ++ u, true) else (t, false)
def flushT (t : Str) (js : Int) : Int := if jourOk t js = true then ((t.length : Nat) : Int) else js
def fallT (t : Str) (js keep : Int) : Str × Int := if jourOk t js = true then (t.take (fallN t js keep), ((fallN t js keep : Nat) : Int)) else (t, js)
theorem addT_yes {t : Str} {js : Int} {u : Str} (h : jourOk t js = true) (h2 : t.length + u.length ≤ 20000) : addT t js u = (t ++ u, true) := if_pos ⟨h, h2⟩
theorem addT_no {t : Str} {js : Int} {u : Str} (h : ¬ (jourOk t js = true ∧ t.length + u.length ≤ 20000)) : addT t js u = (t, false) := if_neg h
theorem addT_len {t : Str} {js : Int} {u q : Str} {b : Bool} (h : addT t js u = (q, b)) {n : Nat} (ht : t.length ≤ n) (hn : 20000 ≤ n) : q.length ≤ n := by
  unfold addT at h
  split at h
  · rename_i hc
    simp only [Prod.mk.injEq] at h
    rw [← h.1, List.length_append]
    omega
  · simp only [Prod.mk.injEq] at h
    rw [← h.1]
    exact ht
theorem flushT_yes {t : Str} {js : Int} (h : jourOk t js = true) : flushT t js = ((t.length : Nat) : Int) := if_pos h
theorem flushT_no {t : Str} {js : Int} (h : jourOk t js = false) : flushT t js = js := if_neg (by rw [h]; exact Bool.false_ne_true)
theorem fallT_yes {t : Str} {js keep : Int} (h : jourOk t js = true) : fallT t js keep = (t.take (fallN t js keep), ((fallN t js keep : Nat) : Int)) := if_pos h
theorem fallT_no {t : Str} {js keep : Int} (h : jourOk t js = false) : fallT t js keep = (t, js) := if_neg (by rw [h]; exact Bool.false_ne_true)
section
variable {q l : List OX} {i : Nat} {x : OX}
theorem fallq_at (hi : i < l.length) (hn : q.length = l.length) (hq : q.map OX.t = ((l.map OX.t).take i).map slotF ++ (l.map OX.t).drop i) :
    q.map OX.t = ((l.map OX.t).take i).map slotF ++ (q.getD i o0).t :: (l.map OX.t).drop (i + 1) ∧ ((l.map OX.t).take (i + 1)).map slotF = ((l.map OX.t).take i).map slotF ++ [slotF (q.getD i o0).t] := by
  have hL : i < (l.map OX.t).length := by rw [List.length_map]; exact hi
  have hd := drop_at (getD_some (d := o0.t) hL)
  have hA : (((l.map OX.t).take i).map slotF).length = i := by rw [List.length_map, List.length_take]; omega
  have hv : (q.getD i o0).t = (l.map OX.t).getD i o0.t := by
    have h1 : (q.map OX.t).getD i o0.t = (q.getD i o0).t := getD_map'
    rw [← h1, hq, hd, List.getD_eq_getElem?_getD, List.getElem?_append_right (by omega), hA, Nat.sub_self]
    rfl
  rw [hv]
  refine ⟨by rw [hq, hd], ?_⟩
  rw [take_at (getD_some (d := o0.t) hL), List.map_append]
  rfl
theorem fallq_keep (hi : i < l.length) (hn : q.length = l.length) (hq : q.map OX.t = ((l.map OX.t).take i).map slotF ++ (l.map OX.t).drop i) (hw : (q.getD i o0).t.whole = true) :
    q.map OX.t = ((l.map OX.t).take (i + 1)).map slotF ++ (l.map OX.t).drop (i + 1) := by
  obtain ⟨h1, h2⟩ := fallq_at hi hn hq
  rw [h2, h1, List.append_assoc]
  congr 1
  rw [slotF, if_pos hw]
  rfl
theorem fallq_set (hi : i < l.length) (hn : q.length = l.length) (hq : q.map OX.t = ((l.map OX.t).take i).map slotF ++ (l.map OX.t).drop i) (hw : (q.getD i o0).t.whole = false) (hx : x.t = ⟨0, [], false⟩) :
    (q.set i x).map OX.t = ((l.map OX.t).take (i + 1)).map slotF ++ (l.map OX.t).drop (i + 1) := by
  obtain ⟨h1, h2⟩ := fallq_at hi hn hq
  have hA : (((l.map OX.t).take i).map slotF).length = i := by rw [List.length_map, List.length_take, List.length_map]; omega
  rw [h2, List.map_set, h1, List.append_assoc, List.set_append_right _ _ (by omega), hA, Nat.sub_self, hx]
  congr 1
  rw [slotF, if_neg (by rw [hw]; exact Bool.false_ne_true)]
  rfl
end
theorem fall_dat {y d : DX} {q : List OX} {keep : Int} {i : Nat} (hy : y.dat = d.dat) (hok : diskOk d.dat = true) (hi : y.l.length ≤ i) (hq : q.map OX.t = ((y.l.map OX.t).take i).map slotF ++ (y.l.map OX.t).drop i) :
    (⟨y.a, y.c, q, (fallT d.jt d.js keep).1, (fallT d.jt d.js keep).2⟩ : DX).dat = d.dat.fall keep := by
  have h : fallT d.jt d.js keep = (d.jt.take (fallN d.jt d.js keep), ((fallN d.jt d.js keep : Nat) : Int)) := fallT_yes (diskOk_jour hok)
  rw [DD.fall, if_pos hok, h]
  have h1 : y.l.map OX.t = d.l.map OX.t := congrArg DD.slots hy
  rw [List.take_of_length_le (by rw [List.length_map]; omega), List.drop_of_length_le (by rw [List.length_map]; omega), List.append_nil, h1] at hq
  simp only [DX.dat, hq]
theorem fall_okz {d : DD} (h : d.okz) (keep : Int) : (d.fall keep).okz := by
  unfold DD.fall
  split
  · refine ⟨by rw [List.length_map]; exact h.k0, fun s hs => ?_, ?_⟩
    · obtain ⟨x, hx, rfl⟩ := List.mem_map.1 hs
      unfold slotF
      split
      · exact h.k1 x hx
      · exact ⟨⟨Nat.zero_le _, fun j hj => absurd hj (Nat.not_lt_zero j)⟩⟩
    · have := h.k2
      simp only [List.length_take]
      omega
  · exact h
theorem fall_lim {d : DD} {n : Nat} (h : d.lim n) (keep : Int) : (d.fall keep).lim n := by
  unfold DD.fall
  split
  · refine ⟨by rw [List.length_map]; exact h.l0, fun s hs => ?_⟩
    obtain ⟨x, hx, rfl⟩ := List.mem_map.1 hs
    unfold slotF
    split
    · exact h.l1 x hx
    · exact ⟨Nat.zero_le _⟩
  · exact h
attribute [local irreducible] JL JC JQ JO LO PO JA JX Ct

set_option maxRecDepth 4000 in
set_option maxHeartbeats 1000000 in
theorem Y_implDiskNew (a : Option Addr) (c : Nat) (s : List Cell) (hs : s.length ≤ 1000000000) :
    Ct Tryz.prog 26 [.slice a s.length c] [] (fun w => Sees w (.slice a s.length c) 2 s.length (s.flatMap encC)) (fun v A' => ∃ d : DX, d.dat = DD.new s ∧ v = .agg #[.slice d.a d.l.length d.c, str d.jt, .int .i64 d.js] ∧ A' = [.rows (rdsD d)]) := by
  refine Ct.intro Tryz.func26 rfl Tryz.ntmps26 (lb rfl) fun w0 hpre => ?_
  have hs_a : Sees w0 _ _ _ _ := hpre
  refine jC <| jF ?_
  refine jH rfl (jo (z := .agg #[.slice none 0 0, str [], iv 0]) (cs := [.slice none 0 0, str [], iv 0]) ko rfl) ?_
  rintro _ _ ⟨b_1, rfl, rfl⟩
  refine jE <| jB <| jC <| jF <| jA (jD (v := .slice a s.length c) rfl) ?_
  refine jH rfl (jI [] Tryz.call74 rfl (C_cloneC a c s (by omega)) rfl (fun w hw => hw.seeOut_ hs_a nM)) ?_
  rintro _ _ ⟨_, ⟨a_2, c_3, rfl, rfl⟩, rfl⟩
  refine jA (kW (ps := [(1, .slice a_2 s.length c_3), (2, .bool true)]) (cs := [iv 0, .slice a_2 s.length c_3, .bool true]) rfl (by kernel_rfl)) <| jA (kW (ps := []) (cs := [iv 0, .slice none 0 0, .bool false]) rfl (by kernel_rfl)) ?_
  refine jH rfl (kH (ps := [(0, .agg #[iv 0, .slice a_2 s.length c_3, .bool true]), (1, .agg #[iv 0, .slice none 0 0, .bool false])]) (cur := #[iv 0, .slice a_2 s.length c_3, .bool true, iv 0, .slice none 0 0, .bool false]) km kj gD rfl (by kernel_rfl) (by decide) (by decide)) ?_
  rintro _ _ ⟨a_4, rfl, rfl⟩
  refine jA (kW (ps := [(0, .slice a_4 2 2)]) (cs := [.slice a_4 2 2, str [], iv 0]) rfl (by kernel_rfl)) ?_
  refine jH rfl (ja 2 (vs := [.slice a_4 2 2, str [], iv 0]) (cs' := [.slice a_4 2 2, str [], iv 0]) rfl rfl rfl rfl kd rfl rfl (lb rfl) rfl) ?_
  rintro _ _ rfl
  refine jE <| jB <| jN <| JQ.nilRow 48 2 <| ju (L' := [Res.rows (([(⟨⟨a_2, c_3⟩, ⟨0, s, true⟩⟩ : OX), (⟨⟨none, 0⟩, ⟨0, [], false⟩⟩ : OX)] : List OX).flatMap rdsO), Res.row (.slice a_4 2 2) 60 3 2 (([(⟨⟨a_2, c_3⟩, ⟨0, s, true⟩⟩ : OX), (⟨⟨none, 0⟩, ⟨0, [], false⟩⟩ : OX)] : List OX).flatMap encO), bk b_1 31 [.slice a_4 2 2, str [], iv 0]]) (fun w hw => hw.closeR (A := ([⟨.slice a_2 s.length c_3, 48, 2, s.length, s.flatMap encC⟩, ⟨.slice none 0 0, 48, 2, 0, ([] : List Cell).flatMap encC⟩] : List RD)) [2, 0] rfl) <| ju (L' := [Res.rows (rdsOS a_4 2 ([(⟨⟨a_2, c_3⟩, ⟨0, s, true⟩⟩ : OX), (⟨⟨none, 0⟩, ⟨0, [], false⟩⟩ : OX)] : List OX)), bk b_1 31 [.slice a_4 2 2, str [], iv 0]]) (fun w hw => hw.consR (r := ⟨.slice a_4 2 2, 60, 3, 2, ([(⟨⟨a_2, c_3⟩, ⟨0, s, true⟩⟩ : OX), (⟨⟨none, 0⟩, ⟨0, [], false⟩⟩ : OX)] : List OX).flatMap encO⟩) (A := ([(⟨⟨a_2, c_3⟩, ⟨0, s, true⟩⟩ : OX), (⟨⟨none, 0⟩, ⟨0, [], false⟩⟩ : OX)] : List OX).flatMap rdsO) [1, 0] rfl) <| jV (.inl rfl) rfl (kA (jO 1 (vs := [.slice a_4 2 2, str [], iv 0]) rfl rfl ke kd rfl rfl) ⟨_, rfl⟩) (tS 1 _) ?_
  exact ⟨(⟨a_4, 2, ([(⟨⟨a_2, c_3⟩, ⟨0, s, true⟩⟩ : OX), (⟨⟨none, 0⟩, ⟨0, [], false⟩⟩ : OX)] : List OX), [], 0⟩ : DX), rfl, rfl, rfl⟩

theorem Y_iAdd (t : Str) (js : Int) (u : Str) (hl : t.length ≤ 1000000000) (hu : u.length ≤ 1000000000) :
    Ct Tryz.prog 27 [.agg #[str t, .int .i64 js], str u] [] (fun _ => True) (fun v A' => ∃ q b, addT t js u = (q, b) ∧ v = .tuple #[.agg #[str q, .int .i64 js], .bool b] ∧ A' = []) := by
  refine Ct.intro Tryz.func27 rfl Tryz.ntmps27 (lb rfl) fun w0 hpre => ?_
  refine jC <| jF ?_
  refine jH rfl (kG (cs := [str t, iv js]) rfl rfl) ?_
  rintro _ _ ⟨b_1, rfl, rfl⟩
  refine jH rfl (jo (z := .agg #[str [], iv 0]) (cs := [str [], iv 0]) gN rfl) ?_
  rintro _ _ ⟨b_2, rfl, rfl⟩
  refine jA (jG (v := .bool false) rfl) <| jE <| jB <| jC <| jC <| jF <| jK (jO 1 (vs := [str t, iv js]) rfl rfl kp kl rfl rfl) ?_
  refine jH rfl (jI [] Tryz.call75 rfl (Y_implJournalOk t js (by omega)) rfl (fun _ _ => trivial)) ?_
  rintro _ _ ⟨_, ⟨rfl, rfl⟩, rfl⟩
  refine jA (jp rfl) <| jA (jD (v := .bool (!(jourOk t js))) rfl) ?_
  rcases Bool.eq_false_or_eq_true (jourOk t js) with h_3 | h_3
  · have hjr := jour_le h_3
    refine jM rfl rfl rfl (cB (cN h_3)) (jP (jU (jQ fo29_0 rfl))) ?_
    rintro _ _ ⟨rfl, rfl⟩
    refine jM rfl rfl rfl (cB (cN h_3)) (jP (jZ 1 (v := str t) rfl rfl ki rfl)) ?_
    rintro _ _ ⟨rfl, rfl⟩
    refine jM rfl rfl rfl (cB (cN h_3)) (jP (jU (kF kg rfl))) ?_
    rintro _ _ ⟨rfl, rfl⟩
    refine jM rfl rfl rfl (cB (cN h_3)) (jP (jU (jD (v := str u) rfl))) ?_
    rintro _ _ ⟨rfl, rfl⟩
    refine jM rfl rfl rfl (cB (cN h_3)) (jP (jU (kF kg rfl))) ?_
    rintro _ _ ⟨rfl, rfl⟩
    refine jM rfl rfl rfl (cB (cN h_3)) (jP (jU (jc (c := ((t.length + u.length : Nat) : Int)) rfl rfl (wr (by omega))))) ?_
    rintro _ _ ⟨rfl, rfl⟩
    refine jM rfl rfl rfl (cB (cN h_3)) (jP (jU (kR rfl rfl))) ?_
    rintro _ _ ⟨rfl, rfl⟩
    refine jA (ji (v := .bool (decide (20000 < ((t.length + u.length : Nat) : Int)))) (cB (cN h_3)) rfl) <| jE <| jB ?_
    by_cases h_4 : 20000 < ((t.length + u.length : Nat) : Int)
    · refine jW (cB (dT h_4)) <| jC <| jF <| jK (jO 1 (vs := [str t, iv js]) rfl rfl kp kl rfl rfl) ?_
      refine jH rfl (ja 0 (vs := [str t, iv js]) (cs' := [str t, iv js]) rfl rfl rfl rfl kl rfl rfl (lb rfl) rfl) ?_
      rintro _ _ rfl
      refine jA (jG (v := .bool false) rfl) <| jE <| jB <| jN <| jX <| kC (.inl rfl) rfl (kA (jO 0 (vs := [str t, iv js]) rfl rfl kp kl rfl rfl) ⟨_, rfl⟩) (jJ (v := .bool false) rfl) (List.nil_sublist _) ?_
      exact ⟨_, _, addT_no (by rintro ⟨h_1, h_2⟩; first | (rw [h_3] at h_1; cases h_1; done) | omega), rfl, rfl⟩
    refine jR (cB (dF h_4)) <| jT <| jB <| jC <| jF <| jA (jQ fo29_0 rfl) <| jK (jZ 1 (v := str t) rfl rfl ki rfl) <| jA (jD (v := str u) rfl) <| jA (kc rfl rfl (by (try simp only [List.length_append, List.length_cons, List.length_nil, List.length_drop, List.length_take]); omega)) <| jA (jQ fo29_0 rfl) ?_
    refine jH rfl (ja 1 (vs := [str (t ++ u)]) (cs' := [str (t ++ u), iv js]) rfl rfl rfl rfl kt rfl rfl (lb rfl) rfl) ?_
    rintro _ _ rfl
    refine jE <| jB <| jC <| jF <| jK (jO 1 (vs := [str (t ++ u), iv js]) rfl rfl kp kl rfl rfl) ?_
    refine jH rfl (ja 0 (vs := [str (t ++ u), iv js]) (cs' := [str (t ++ u), iv js]) rfl rfl rfl rfl kl rfl rfl (lb rfl) rfl) ?_
    rintro _ _ rfl
    refine jA (jG (v := .bool true) rfl) <| jE <| jB <| jN <| kC (.inl rfl) rfl (kA (jO 0 (vs := [str (t ++ u), iv js]) rfl rfl kp kl rfl rfl) ⟨_, rfl⟩) (jJ (v := .bool true) rfl) (List.nil_sublist _) ?_
    exact ⟨_, _, addT_yes h_3 (by omega), rfl, rfl⟩
  refine jS (b := true) rfl rfl rfl (cB (cN h_3)) <| jS (b := true) rfl rfl rfl (cB (cN h_3)) <| jS (b := true) rfl rfl rfl (cB (cN h_3)) <| jS (b := true) rfl rfl rfl (cB (cN h_3)) <| jS (b := true) rfl rfl rfl (cB (cN h_3)) <| jS (b := true) rfl rfl rfl (cB (cN h_3)) <| jS (b := true) rfl rfl rfl (cB (cN h_3)) <| jA (jh (v := .bool true) (cB (cN h_3)) rfl) <| jE <| jB ?_
  refine jW (cB rfl) <| jC <| jF <| jK (jO 1 (vs := [str t, iv js]) rfl rfl kp kl rfl rfl) ?_
  refine jH rfl (ja 0 (vs := [str t, iv js]) (cs' := [str t, iv js]) rfl rfl rfl rfl kl rfl rfl (lb rfl) rfl) ?_
  rintro _ _ rfl
  refine jA (jG (v := .bool false) rfl) <| jE <| jB <| jN <| jX <| kC (.inl rfl) rfl (kA (jO 0 (vs := [str t, iv js]) rfl rfl kp kl rfl rfl) ⟨_, rfl⟩) (jJ (v := .bool false) rfl) (List.nil_sublist _) ?_
  exact ⟨_, _, addT_no (by rintro ⟨h_1, h_2⟩; first | (rw [h_3] at h_1; cases h_1; done) | omega), rfl, rfl⟩

theorem Y_iFlush (t : Str) (js : Int) (hl : t.length ≤ 1000000000) :
    Ct Tryz.prog 30 [.agg #[str t, .int .i64 js]] [] (fun _ => True) (fun v A' => ∃ k, flushT t js = k ∧ v = .agg #[str t, .int .i64 k] ∧ A' = []) := by
  refine Ct.intro Tryz.func30 rfl Tryz.ntmps30 (lb rfl) fun w0 hpre => ?_
  refine jC <| jF ?_
  refine jH rfl (kG (cs := [str t, iv js]) rfl rfl) ?_
  rintro _ _ ⟨b_1, rfl, rfl⟩
  refine jH rfl (jo (z := .agg #[str [], iv 0]) (cs := [str [], iv 0]) gN rfl) ?_
  rintro _ _ ⟨b_2, rfl, rfl⟩
  refine jE <| jB <| jC <| jC <| jF <| jK (jO 1 (vs := [str t, iv js]) rfl rfl kp kl rfl rfl) ?_
  refine jH rfl (jI [] Tryz.call75 rfl (Y_implJournalOk t js (by omega)) rfl (fun _ _ => trivial)) ?_
  rintro _ _ ⟨_, ⟨rfl, rfl⟩, rfl⟩
  refine jE <| jB ?_
  rcases Bool.eq_false_or_eq_true (jourOk t js) with h_3 | h_3
  · have hjr := jour_le h_3
    refine jW (cB h_3) <| jF <| jA (jQ fo29_0 rfl) <| jK (jZ 1 (v := str t) rfl rfl ki rfl) <| jA (kF kg rfl) <| jA (jQ fo29_1 rfl) ?_
    refine jH rfl (ja 1 (vs := [iv (t.length : Int)]) (cs' := [str t, iv (t.length : Int)]) rfl rfl rfl rfl gA rfl rfl (lb rfl) rfl) ?_
    rintro _ _ rfl
    refine jE <| jB <| jC <| jF <| jK (jO 1 (vs := [str t, iv (t.length : Int)]) rfl rfl kp kl rfl rfl) ?_
    refine jH rfl (ja 0 (vs := [str t, iv (t.length : Int)]) (cs' := [str t, iv (t.length : Int)]) rfl rfl rfl rfl kl rfl rfl (lb rfl) rfl) ?_
    rintro _ _ rfl
    refine jE <| jB <| jN <| jV (.inl rfl) rfl (kA (jO 0 (vs := [str t, iv (t.length : Int)]) rfl rfl kp kl rfl rfl) ⟨_, rfl⟩) (List.nil_sublist _) ?_
    exact ⟨_, flushT_yes h_3, rfl, rfl⟩
  refine jR (cB h_3) <| jT <| jB <| jC <| jF <| jK (jO 1 (vs := [str t, iv js]) rfl rfl kp kl rfl rfl) ?_
  refine jH rfl (ja 0 (vs := [str t, iv js]) (cs' := [str t, iv js]) rfl rfl rfl rfl kl rfl rfl (lb rfl) rfl) ?_
  rintro _ _ rfl
  refine jE <| jB <| jN <| jV (.inl rfl) rfl (kA (jO 0 (vs := [str t, iv js]) rfl rfl kp kl rfl rfl) ⟨_, rfl⟩) (List.nil_sublist _) ?_
  exact ⟨_, flushT_no h_3, rfl, rfl⟩

theorem Y_iFallJ (t : Str) (js keep : Int) (hl : t.length ≤ 1000000000) :
    Ct Tryz.prog 84 [.agg #[str t, .int .i64 js], .int .i64 keep] [] (fun _ => True) (fun v A' => ∃ q k, fallT t js keep = (q, k) ∧ v = .agg #[str q, .int .i64 k] ∧ A' = []) := by
  refine Ct.intro Tryz.func84 rfl Tryz.ntmps84 (lb rfl) fun w0 hpre => ?_
  refine jC <| jF ?_
  refine jH rfl (kG (cs := [str t, iv js]) rfl rfl) ?_
  rintro _ _ ⟨b_1, rfl, rfl⟩
  refine jH rfl (jo (z := .agg #[str [], iv 0]) (cs := [str [], iv 0]) gN rfl) ?_
  rintro _ _ ⟨b_2, rfl, rfl⟩
  refine jE <| jB <| jC <| jC <| jF <| jK (jO 1 (vs := [str t, iv js]) rfl rfl kp kl rfl rfl) ?_
  refine jH rfl (jI [] Tryz.call75 rfl (Y_implJournalOk t js (by omega)) rfl (fun _ _ => trivial)) ?_
  rintro _ _ ⟨_, ⟨rfl, rfl⟩, rfl⟩
  refine jA (jp rfl) <| jE <| jB ?_
  rcases Bool.eq_false_or_eq_true (jourOk t js) with h_3 | h_3
  · have hjr := jour_le h_3
    obtain ⟨jn, rfl⟩ : ∃ jn : Nat, js = ((jn : Nat) : Int) := ⟨js.toNat, by omega⟩
    have hbl := bro_le keep (t.length - jn)
    refine jR (cB (cN h_3)) <| jT <| jB <| jC <| kJ [bk b_2 29 [str [], iv 0], bk b_1 29 [str t, nv jn]] 11 mixed (by simp) <| jL 0 rfl (jQ fo29_1 rfl) <| jw 1 rfl (jZ 1 (v := nv jn) rfl rfl kq rfl) <| jL 2 rfl (jD (v := iv keep) rfl) <| jL 3 rfl (jQ fo29_0 rfl) <| jw 4 rfl (jZ 1 (v := str t) rfl rfl ki rfl) ?_
    refine jL 5 rfl (kF kg rfl) <| jL 6 rfl (jQ fo29_1 rfl) <| jw 7 rfl (jZ 1 (v := nv jn) rfl rfl kq rfl) <| jL 8 rfl (kZ (c := ((t.length - jn : Nat) : Int)) rfl rfl (wr (by omega))) <| jj (i := 9) ?_
    refine jz rfl rfl (jI [] Tryz.call123 rfl (Y_implbro keep (t.length - jn)) rfl (fun _ _ => trivial)) ?_
    rintro _ _ ⟨_, ⟨rfl, rfl⟩, rfl⟩
    have hbro3 := bro_le keep (t.length - jn)
    refine ⟨by simp, ?_⟩
    refine jL 10 rfl (jc (c := ((jn + (bro keep (t.length - jn)) : Nat) : Int)) rfl rfl (wr (by omega))) <| jL 11 rfl (jG (v := iv ((jn + (bro keep (t.length - jn)) : Nat) : Int)) rfl) <| kI (by kernel_rfl) <| jB <| jC <| jF <| jA (jQ fo29_0 rfl) <| jK (jZ 1 (v := str t) rfl rfl ki rfl) <| jA (jD (v := iv ((jn + (bro keep (t.length - jn)) : Nat) : Int)) rfl) <| jA (PO.sliceSh (j := (jn + (bro keep (t.length - jn)))) kg rfl rfl (by omega)) ?_
    refine jA (jD (v := iv ((jn + (bro keep (t.length - jn)) : Nat) : Int)) rfl) <| jA (kW (ps := [(0, str (t.take (jn + (bro keep (t.length - jn))))), (1, iv ((jn + (bro keep (t.length - jn)) : Nat) : Int))]) (cs := [str (t.take (jn + (bro keep (t.length - jn)))), iv ((jn + (bro keep (t.length - jn)) : Nat) : Int)]) rfl (by kernel_rfl)) ?_
    refine jH rfl (ja 0 (vs := [str (t.take (jn + (bro keep (t.length - jn)))), iv ((jn + (bro keep (t.length - jn)) : Nat) : Int)]) (cs' := [str (t.take (jn + (bro keep (t.length - jn)))), iv ((jn + (bro keep (t.length - jn)) : Nat) : Int)]) rfl rfl rfl rfl kl rfl rfl (lb rfl) rfl) ?_
    rintro _ _ rfl
    refine jE <| jB <| jN <| jV (.inl rfl) rfl (kA (jO 0 (vs := [str (t.take (jn + (bro keep (t.length - jn)))), iv ((jn + (bro keep (t.length - jn)) : Nat) : Int)]) rfl rfl kp kl rfl rfl) ⟨_, rfl⟩) (List.nil_sublist _) ?_
    exact ⟨_, _, fallT_yes h_3, rfl, rfl⟩
  refine jW (cB (cN h_3)) <| jC <| jF <| jK (jO 1 (vs := [str t, iv js]) rfl rfl kp kl rfl rfl) ?_
  refine jH rfl (ja 0 (vs := [str t, iv js]) (cs' := [str t, iv js]) rfl rfl rfl rfl kl rfl rfl (lb rfl) rfl) ?_
  rintro _ _ rfl
  refine jE <| jB <| jN <| jX <| jV (.inl rfl) rfl (kA (jO 0 (vs := [str t, iv js]) rfl rfl kp kl rfl rfl) ⟨_, rfl⟩) (List.nil_sublist _) ?_
  exact ⟨_, _, fallT_no h_3, rfl, rfl⟩

set_option maxRecDepth 4000 in
set_option maxHeartbeats 1000000 in
theorem Y_iFallD (d : DX) (hz : d.dat.okz) (hl : d.dat.lim 1000000000) (keep : Int) :
    Ct Tryz.prog 31 [.agg #[.slice d.a d.l.length d.c, str d.jt, .int .i64 d.js], .int .i64 keep] [] (fun w => SeesA w (rdsD d)) (fun v A' => ∃ y : DX, y.dat = d.dat.fall keep ∧ v = .agg #[.slice y.a y.l.length y.c, str y.jt, .int .i64 y.js] ∧ A' = [.rows (rdsD y)]) := by
  refine Ct.intro Tryz.func31 rfl Tryz.ntmps31 (lb rfl) fun w0 hpre => ?_
  have hs_1 : Sees w0 (.slice d.a d.l.length d.c) 3 d.l.length (d.l.flatMap encO) := (hpre).head
  have hi_2 : SeesA w0 (d.l.flatMap rdsO) := (hpre).tail
  have hjt := hz.k2
  have hdl : d.l.length ≤ 1000000000 := by have := hl.l0; simpa only [DX.dat, List.length_map] using this
  refine jC <| jF ?_
  refine jH rfl (kG (cs := [.slice d.a d.l.length d.c, str d.jt, iv d.js]) rfl rfl) ?_
  rintro _ _ ⟨b_3, rfl, rfl⟩
  refine jH rfl (jo (z := .agg #[.slice none 0 0, str [], iv 0]) (cs := [.slice none 0 0, str [], iv 0]) ko rfl) ?_
  rintro _ _ ⟨b_4, rfl, rfl⟩
  refine jE <| jB <| jC <| jF <| jK (jO 1 (vs := [.slice d.a d.l.length d.c, str d.jt, iv d.js]) rfl rfl ke kd rfl rfl) ?_
  refine jH rfl (jI [] Tryz.call62 rfl (Z_implDiskclone d hl) rfl (fun w hw => hw.seeOutA hpre nMA)) ?_
  rintro _ _ ⟨_, ⟨y_5, hy_6, rfl, rfl⟩, rfl⟩
  refine jH rfl (jo (z := .agg #[.slice none 0 0, str [], iv 0]) (cs := [.slice none 0 0, str [], iv 0]) ko rfl) ?_
  rintro _ _ ⟨b_7, rfl, rfl⟩
  refine jH rfl (ja 0 (vs := [.slice y_5.a y_5.l.length y_5.c, str y_5.jt, iv y_5.js]) (cs' := [.slice y_5.a y_5.l.length y_5.c, str y_5.jt, iv y_5.js]) rfl rfl rfl rfl kd rfl rfl (lb rfl) rfl) ?_
  rintro _ _ rfl
  refine jE <| jB <| jC <| jC <| jF <| jK (jO 3 (vs := [.slice d.a d.l.length d.c, str d.jt, iv d.js]) rfl rfl ke kd rfl rfl) ?_
  refine jH rfl (jI [] Tryz.call47 rfl (Y_implDiskOk d hz (by omega)) rfl (fun w hw => hw.seeOutA hpre nMA)) ?_
  rintro _ _ ⟨_, ⟨rfl, rfl⟩, rfl⟩
  refine jA (jp rfl) <| jE <| jB ?_
  rcases Bool.eq_false_or_eq_true (diskOk d.dat) with h_8 | h_8
  · have hjl : d.jt.length ≤ 20000 := jour_len h_8
    have hl2 := disk_two h_8
    have hyl : y_5.l.length = d.l.length := by have e_ := congrArg (fun q : DD => q.slots.length) hy_6; simpa only [DX.dat, List.length_map] using e_
    refine jR (cB (cN h_8)) <| jT <| jB <| jC <| jF <| jA (jQ fo31_1 rfl) <| jK (jO 3 (vs := [str d.jt, iv d.js]) rfl rfl kp kl rfl rfl) <| jA (jD (v := iv keep) rfl) ?_
    refine jH rfl (jI [] Tryz.call84 rfl (Y_iFallJ d.jt d.js keep (by omega)) rfl (fun _ _ => trivial)) ?_
    rintro _ _ ⟨_, ⟨u_9, n_10, e_11, rfl, rfl⟩, rfl⟩
    refine jA (jQ fo31_1 rfl) ?_
    refine jH rfl (ja 0 (vs := [str u_9, iv n_10]) (cs' := [.slice y_5.a y_5.l.length y_5.c, str u_9, iv n_10]) rfl rfl rfl rfl kl rfl rfl (lb rfl) rfl) ?_
    rintro _ _ rfl
    refine jE <| jB <| jC <| jC <| kT (L' := [Res.row (.slice y_5.a y_5.l.length y_5.c) 60 3 y_5.l.length (y_5.l.flatMap encO), Res.rows (y_5.l.flatMap rdsO), bk b_7 31 [.slice y_5.a y_5.l.length y_5.c, str u_9, iv n_10], bk b_4 31 [.slice none 0 0, str [], iv 0], bk b_3 31 [.slice d.a d.l.length d.c, str d.jt, iv d.js]]) (fun w hw => hw.headR (r := ⟨.slice y_5.a y_5.l.length y_5.c, 60, 3, y_5.l.length, y_5.l.flatMap encO⟩) (A := y_5.l.flatMap rdsO) 1 rfl) <| jF <| jA (jQ fo31_0 rfl) <| jK (jZ 2 (v := .slice y_5.a y_5.l.length y_5.c) rfl rfl ks rfl) <| jA (jr km rfl) <| jA (jD (v := iv 0) rfl) ?_
    refine jE <| jB <| jf <| kT (L' := [Res.row (.slice y_5.a y_5.l.length y_5.c) 60 3 y_5.l.length (y_5.l.flatMap encO), Res.rows (y_5.l.flatMap rdsO), bk b_7 31 [.slice y_5.a y_5.l.length y_5.c, str u_9, iv n_10], bk b_4 31 [.slice none 0 0, str [], iv 0], bk b_3 31 [.slice d.a d.l.length d.c, str d.jt, iv d.js]]) (fun w hw => hw.perm (pick_perm [0, 0] (A := [Res.row (.slice y_5.a y_5.l.length y_5.c) 60 3 y_5.l.length (y_5.l.flatMap encO), Res.rows (y_5.l.flatMap rdsO)]) (F := [bk b_7 31 [.slice y_5.a y_5.l.length y_5.c, str u_9, iv n_10], bk b_4 31 [.slice none 0 0, str [], iv 0], bk b_3 31 [.slice d.a d.l.length d.c, str d.jt, iv d.js]]) rfl).symm) <| kD (fun k_ e_ L_ => ∃ i : Nat, ∃ q : List OX, (i ≤ y_5.l.length) ∧ (q.length = y_5.l.length) ∧ (q.map OX.t = ((y_5.l.map OX.t).take i).map slotF ++ (y_5.l.map OX.t).drop i) ∧ e_ 4 = .pointer (some ⟨b_4, 0, none⟩) ∧ e_ 5 = .pointer (some ⟨b_7, 0, none⟩) ∧ e_ 20 = .slice y_5.a y_5.l.length y_5.c ∧ e_ 21 = nv y_5.l.length ∧ e_ 22 = nv i ∧ L_ = [Res.row (.slice y_5.a y_5.l.length y_5.c) 60 3 y_5.l.length (q.flatMap encO), Res.rows (q.flatMap rdsO), bk b_7 31 [.slice y_5.a y_5.l.length y_5.c, str u_9, iv n_10], bk b_4 31 [.slice none 0 0, str [], iv 0], bk b_3 31 [.slice d.a d.l.length d.c, str d.jt, iv d.js]] ∧ k_ = y_5.l.length - i) _ ⟨0, y_5.l, by omega, rfl, (by simp), rfl, rfl, rfl, rfl, rfl, rfl, rfl⟩ ?_
    rintro _ e_12 _ ⟨i, q, hi, hqn, hq, he_13, he_14, he_15, he_16, he_17, rfl, rfl⟩
    refine jC <| jF <| jA (jl he_17 he_16) <| jE <| jB <| jC ?_
    by_cases h_18 : ((i : Nat) : Int) < ((y_5.l.length : Nat) : Int)
    · have hlt : i < q.length := by omega
      have hlt2 : i < y_5.l.length := by omega
      refine jW (cB (dT h_18)) <| jT <| jB <| jC <| jf <| jC <| jF <| jA (jD (v := nv i) he_17) ?_
      refine kN fun hst => ?_
      obtain ⟨hr_19, hr_19b, -⟩ := row_some 0 rfl (by omega) hst
      refine jA (jk (i := i) km kj hr_19 hr_19b he_15 he_17 (by omega)) <| jK (LO.loadRK 0 (vs := [iv ((q.getD i o0).t.seq), .slice ((q.getD i o0).x.a0) ((q.getD i o0).t.cells.length) ((q.getD i o0).x.c0), .bool ((q.getD i o0).t.whole)]) rfl rfl gB kj (flat_take encO_len o0 q i (by omega)) rfl (by decide)) ?_
      refine jH rfl (jo (z := .agg #[iv 0, .slice none 0 0, .bool false]) (cs := [iv 0, .slice none 0 0, .bool false]) gD rfl) ?_
      rintro _ _ ⟨b_20, rfl, rfl⟩
      refine jA (jG (v := nv i) rfl) ?_
      refine jH rfl (ja 0 (vs := [iv ((q.getD i o0).t.seq), .slice ((q.getD i o0).x.a0) ((q.getD i o0).t.cells.length) ((q.getD i o0).x.c0), .bool ((q.getD i o0).t.whole)]) (cs' := [iv ((q.getD i o0).t.seq), .slice ((q.getD i o0).x.a0) ((q.getD i o0).t.cells.length) ((q.getD i o0).x.c0), .bool ((q.getD i o0).t.whole)]) rfl rfl rfl rfl kj rfl rfl (lb rfl) rfl) ?_
      rintro _ _ rfl
      refine jE <| jB <| jC <| jF <| jA (jQ fo60_2 rfl) <| jK (jZ 0 (v := .bool ((q.getD i o0).t.whole)) rfl rfl gI rfl) <| jA (jp rfl) <| jE <| jB ?_
      rcases Bool.eq_false_or_eq_true ((q.getD i o0).t.whole) with h_21 | h_21
      · refine jR (cB (cN h_21)) <| jT <| jm <| jB <| jF <| jA (jc (c := ((i + 1 : Nat) : Int)) he_17 rfl (wr (by omega))) <| jA (jD (v := iv ((i + 1 : Nat) : Int)) rfl) <| jE <| kB [1, 1, 1, 1, 1] (A := [Res.row (.slice y_5.a y_5.l.length y_5.c) 60 3 y_5.l.length (q.flatMap encO), Res.rows (q.flatMap rdsO), bk b_7 31 [.slice y_5.a y_5.l.length y_5.c, str u_9, iv n_10], bk b_4 31 [.slice none 0 0, str [], iv 0], bk b_3 31 [.slice d.a d.l.length d.c, str d.jt, iv d.js]]) rfl ?_
        refine jq (y_5.l.length - (i + 1)) (by omega) ⟨i + 1, q, by omega, by omega, (fallq_keep hlt2 hqn hq h_21), he_13, he_14, he_15, he_16, rfl, rfl, rfl⟩
      refine jW (cB (cN h_21)) <| jF <| jA (jQ fo31_0 he_14) <| jK (jZ 3 (v := .slice y_5.a y_5.l.length y_5.c) rfl rfl ks rfl) <| jA (jD (v := nv i) rfl) <| jA (kW (ps := []) (cs := [iv 0, .slice none 0 0, .bool false]) rfl (by kernel_rfl)) <| jA (jk (i := i) km kj hr_19 hr_19b rfl rfl (by omega)) ?_
      refine jH rfl (JO.storeR 1 (vs := [iv 0, .slice none 0 0, .bool false]) (cs' := (q.set i (⟨⟨none, 0⟩, ⟨0, [], false⟩⟩ : OX)).flatMap encO) rfl rfl rfl rfl kj rfl rfl (by decide) (by rw [flat_length encO_len]; omega) (flat_set encO_len q i (⟨⟨none, 0⟩, ⟨0, [], false⟩⟩ : OX) (by omega))) ?_
      rintro _ _ rfl
      refine jE <| jm <| jB <| jF <| jA (jc (c := ((i + 1 : Nat) : Int)) he_17 rfl (wr (by omega))) <| jA (jD (v := iv ((i + 1 : Nat) : Int)) rfl) <| jE <| ju (L' := [Res.rows ((q.take i).flatMap rdsO), Res.rows (rdsO (q.getD i o0)), Res.rows ((q.drop (i + 1)).flatMap rdsO), bk b_20 60 [iv ((q.getD i o0).t.seq), .slice ((q.getD i o0).x.a0) ((q.getD i o0).t.cells.length) ((q.getD i o0).x.c0), .bool ((q.getD i o0).t.whole)], Res.row (.slice y_5.a y_5.l.length y_5.c) 60 3 y_5.l.length ((q.set i (⟨⟨none, 0⟩, ⟨0, [], false⟩⟩ : OX)).flatMap encO), bk b_7 31 [.slice y_5.a y_5.l.length y_5.c, str u_9, iv n_10], bk b_4 31 [.slice none 0 0, str [], iv 0], bk b_3 31 [.slice d.a d.l.length d.c, str d.jt, iv d.js]]) (fun w hw => hw.splitR 2 rfl (flatMap_at o0 hlt)) <| JQ.nilRow 48 2 <| ju (L' := [Res.rows (rdsO (⟨⟨none, 0⟩, ⟨0, [], false⟩⟩ : OX)), Res.rows ((q.take i).flatMap rdsO), Res.rows (rdsO (q.getD i o0)), Res.rows ((q.drop (i + 1)).flatMap rdsO), bk b_20 60 [iv ((q.getD i o0).t.seq), .slice ((q.getD i o0).x.a0) ((q.getD i o0).t.cells.length) ((q.getD i o0).x.c0), .bool ((q.getD i o0).t.whole)], Res.row (.slice y_5.a y_5.l.length y_5.c) 60 3 y_5.l.length ((q.set i (⟨⟨none, 0⟩, ⟨0, [], false⟩⟩ : OX)).flatMap encO), bk b_7 31 [.slice y_5.a y_5.l.length y_5.c, str u_9, iv n_10], bk b_4 31 [.slice none 0 0, str [], iv 0], bk b_3 31 [.slice d.a d.l.length d.c, str d.jt, iv d.js]]) (fun w hw => hw.closeR (A := rdsO (⟨⟨none, 0⟩, ⟨0, [], false⟩⟩ : OX)) [0] rfl) ?_
      refine ju (L' := [Res.rows ((q.set i (⟨⟨none, 0⟩, ⟨0, [], false⟩⟩ : OX)).flatMap rdsO), Res.rows (rdsO (q.getD i o0)), bk b_20 60 [iv ((q.getD i o0).t.seq), .slice ((q.getD i o0).x.a0) ((q.getD i o0).t.cells.length) ((q.getD i o0).x.c0), .bool ((q.getD i o0).t.whole)], Res.row (.slice y_5.a y_5.l.length y_5.c) 60 3 y_5.l.length ((q.set i (⟨⟨none, 0⟩, ⟨0, [], false⟩⟩ : OX)).flatMap encO), bk b_7 31 [.slice y_5.a y_5.l.length y_5.c, str u_9, iv n_10], bk b_4 31 [.slice none 0 0, str [], iv 0], bk b_3 31 [.slice d.a d.l.length d.c, str d.jt, iv d.js]]) (fun w hw => hw.joinR [1, 0, 1] rfl (flatMap_setAt hlt)) <| kB [3, 0, 2, 2, 2] (A := [Res.row (.slice y_5.a y_5.l.length y_5.c) 60 3 y_5.l.length ((q.set i (⟨⟨none, 0⟩, ⟨0, [], false⟩⟩ : OX)).flatMap encO), Res.rows ((q.set i (⟨⟨none, 0⟩, ⟨0, [], false⟩⟩ : OX)).flatMap rdsO), bk b_7 31 [.slice y_5.a y_5.l.length y_5.c, str u_9, iv n_10], bk b_4 31 [.slice none 0 0, str [], iv 0], bk b_3 31 [.slice d.a d.l.length d.c, str d.jt, iv d.js]]) rfl ?_
      refine jq (y_5.l.length - (i + 1)) (by omega) ⟨i + 1, q.set i (⟨⟨none, 0⟩, ⟨0, [], false⟩⟩ : OX), by omega, (by rw [List.length_set]; exact hqn), (fallq_set hlt2 hqn hq h_21 rfl), he_13, he_14, he_15, he_16, rfl, rfl, rfl⟩
    refine jR (cB (dF h_18)) <| jx <| jb <| jb <| jy <| jB <| jC <| jF <| jK (jO 2 (vs := [.slice y_5.a y_5.l.length y_5.c, str u_9, iv n_10]) rfl he_14 ke kd rfl rfl) ?_
    refine jH rfl (ja 3 (vs := [.slice y_5.a y_5.l.length y_5.c, str u_9, iv n_10]) (cs' := [.slice y_5.a y_5.l.length y_5.c, str u_9, iv n_10]) rfl he_13 rfl rfl kd rfl rfl (lb rfl) rfl) ?_
    rintro _ _ rfl
    refine jE <| jB <| jN <| ju (L' := [Res.row (.slice y_5.a q.length y_5.c) 60 3 q.length (q.flatMap encO), Res.rows (q.flatMap rdsO), bk b_7 31 [.slice y_5.a y_5.l.length y_5.c, str u_9, iv n_10], bk b_4 31 [.slice y_5.a y_5.l.length y_5.c, str u_9, iv n_10], bk b_3 31 [.slice d.a d.l.length d.c, str d.jt, iv d.js]]) (fun w hw => hw.eqL (by rw [hqn] <;> rfl)) <| ju (L' := [Res.rows (rdsOS y_5.a y_5.c q), bk b_7 31 [.slice y_5.a y_5.l.length y_5.c, str u_9, iv n_10], bk b_4 31 [.slice y_5.a y_5.l.length y_5.c, str u_9, iv n_10], bk b_3 31 [.slice d.a d.l.length d.c, str d.jt, iv d.js]]) (fun w hw => hw.consR (r := ⟨.slice y_5.a q.length y_5.c, 60, 3, q.length, q.flatMap encO⟩) (A := q.flatMap rdsO) [0, 0] rfl) <| jV (.inl rfl) rfl (kA (jO 2 (vs := [.slice y_5.a y_5.l.length y_5.c, str u_9, iv n_10]) rfl he_13 ke kd rfl rfl) ⟨_, he_13⟩) (tS 1 _) ?_
    have hf := fall_dat (keep := keep) hy_6 h_8 (i := i) (by omega) hq
    rw [e_11] at hf
    exact ⟨(⟨y_5.a, y_5.c, q, u_9, n_10⟩ : DX), hf, by simp only [hqn], rfl⟩
  refine jW (cB (cN h_8)) <| jC <| jF <| jK (jO 0 (vs := [.slice y_5.a y_5.l.length y_5.c, str y_5.jt, iv y_5.js]) rfl rfl ke kd rfl rfl) ?_
  refine jH rfl (ja 2 (vs := [.slice y_5.a y_5.l.length y_5.c, str y_5.jt, iv y_5.js]) (cs' := [.slice y_5.a y_5.l.length y_5.c, str y_5.jt, iv y_5.js]) rfl rfl rfl rfl kd rfl rfl (lb rfl) rfl) ?_
  rintro _ _ rfl
  refine jE <| jB <| jN <| jX <| kM (pick_perm [1] (A := [Res.rows (rdsD y_5)]) (F := [bk b_7 31 [.slice y_5.a y_5.l.length y_5.c, str y_5.jt, iv y_5.js], bk b_4 31 [.slice y_5.a y_5.l.length y_5.c, str y_5.jt, iv y_5.js], bk b_3 31 [.slice d.a d.l.length d.c, str d.jt, iv d.js]]) rfl).symm <| jV (.inl rfl) rfl (kA (jO 2 (vs := [.slice y_5.a y_5.l.length y_5.c, str y_5.jt, iv y_5.js]) rfl rfl ke kd rfl rfl) ⟨_, rfl⟩) (tS 1 _) ?_
  exact ⟨y_5, by rw [fall_not (by exact h_8)]; exact hy_6, rfl, rfl⟩

theorem Y_jsize (d : DX) (hz : d.jt.length ≤ 9223372036854775807) :
    Ct Tryz.prog 36 [.agg #[.slice d.a d.l.length d.c, str d.jt, .int .i64 d.js]] [] (fun _ => True) (fun v A' => v = .int .i64 ((d.jt.length : Nat) : Int) ∧ A' = []) := by
  refine Ct.intro Tryz.func36 rfl Tryz.ntmps36 (lb rfl) fun w0 hpre => ?_
  refine jC <| jF ?_
  refine jH rfl (kG (cs := [.slice d.a d.l.length d.c, str d.jt, iv d.js]) rfl rfl) ?_
  rintro _ _ ⟨b_1, rfl, rfl⟩
  refine jA (jG (v := iv 0) rfl) <| jE <| jB <| jC <| jF <| jA (jQ fo31_1 rfl) <| jA (jQ fo29_0 rfl) <| jK (jZ 0 (v := str d.jt) rfl rfl ki rfl) <| jA (kF kg rfl) <| jA (jG (v := iv (d.jt.length : Int)) rfl) ?_
  refine jE <| jB <| jN <| jV (.inl rfl) rfl (jJ (v := iv (d.jt.length : Int)) rfl) (List.nil_sublist _) ?_
  exact ⟨rfl, rfl⟩

end Go.Proofs.YtjncpgcccgdeiaaGreatDoor
