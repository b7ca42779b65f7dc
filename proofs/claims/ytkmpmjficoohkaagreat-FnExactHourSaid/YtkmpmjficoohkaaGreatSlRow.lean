/-
  Rows: literals, make, append, stores behind a slice. No program in sight.
-/
import Derived.Test.YtkmpmjficoohkaaGreatSlMem
set_option linter.unusedSimpArgs false
set_option linter.unusedVariables false
set_option linter.unnecessarySimpa false
namespace Go.Proofs.YtkmpmjficoohkaaGreat
open Go Go.RowKit

section
variable {P : Program} {ops : Array Oper} {Q : Exit → Act → World → Prop} {n : Nat} {w0 w : World} {D : List Nat} {L : List Res} {e : Env}
variable {d : Option Tmp} {ty : TypeId} {pos : String} {aft : Array Edge} {gd : Option (Nat × Bool)}

/-- A new row. -/
theorem St.newRow (hw : St w0 D L w) (t k m c : Nat) (cur : Array Value) (hm : m ≤ c) (hc : c ≤ maxLen) (hs : cur.size = c * k) :
    St w0 D (.row (.slice (some ⟨w.heap.size, 0, none⟩) m c) t k m (cur.toList.take (m * k)) :: L) (w.alloc (.cells cur t)) := by
  refine hw.turn (A := []) (A' := [.row (.slice (some ⟨w.heap.size, 0, none⟩) m c) t k m (cur.toList.take (m * k))]) (F := L) (List.Perm.refl _) rfl rfl rfl (by simp) (fun q hq _ => Below.heap_alloc _ _ _ hq) ?_ ?_ ?_
  · intro r hr
    simp only [List.mem_singleton] at hr
    subst hr
    refine ⟨?_, .inr ⟨w.heap.size, c, cur, rfl, Nat.zero_le _, ?_, hm, hc, hs, rfl⟩⟩
    · rw [List.length_take, Array.length_toList, hs]
      exact Nat.min_eq_left (Nat.mul_le_mul_right k hm)
    · exact CellsAt.new w _ _
  · simp [idsOf, Res.ids, Value.ownBlock]
  · intro i hi
    simp only [idsOf, Res.ids, Value.ownBlock, List.flatMap_cons, List.flatMap_nil, List.append_nil, Option.mem_toList, Option.some.injEq] at hi
    exact .inr (by omega)

/-- The cells of a literal. -/
def litCells (k m : Nat) (z : Value) (parts : List (Nat × Value)) : Option (Array Value) :=
  Instr.fill (fun i => some (i * k, k)) ((Array.range (m * k)).map (z.cells[· % z.cells.size]!)) parts

theorem fill_size {place : Nat → Option (Nat × Nat)} : ∀ {parts : List (Nat × Value)} {cells cells' : Array Value}, Instr.fill place cells parts = some cells' → cells'.size = cells.size
  | [], _, _, h => by simp only [Instr.fill, Option.some.injEq] at h; subst h; rfl
  | (i, v) :: rest, cells, cells', h => by
    have keep : ∀ (l : List (Value × Nat)) (off : Nat) (cs : Array Value), (l.foldl (fun cs (c, j) => cs.setIfInBounds (off + j) c) cs).size = cs.size := by
      intro l
      induction l with
      | nil => intros; rfl
      | cons x l ih => intro off cs; simp only [List.foldl_cons]; rw [ih]; simp
    unfold Instr.fill at h
    split at h
    · cases h
    · split at h
      · cases h
      · have := fill_size h
        rw [this, ← Array.foldl_toList]
        exact keep _ _ _

/-- A slice literal. -/
theorem JO.buildSlice {t el k m : Nat} {z : Value} {parts : Array (Nat × Operand)} {ps : List (Nat × Value)} {cur : Array Value} (ht : P.underlying t = some (.slice el)) (hs : ∀ w, (sizeOf el).run P w = .ok k w) (hz : ∀ w, (zeroValue el).run P w = .ok z w)
    (hp : parts.toList.map (fun x => (x.1, rd n e x.2)) = ps) (hf : litCells k m z ps = some cur) (hm : m * k ≤ 16777216) (hm2 : m ≤ 16777216) :
    JO P n w0 D L e ⟨d, .buildSlice t m parts, ty, pos, aft, gd⟩ (fun u L' => ∃ a, u = .slice a m m ∧ L' = .row (.slice a m m) el k m cur.toList :: L) := JO.ofRun fun w hw => by
  have hsz : cur.size = m * k := by rw [fill_size hf]; simp
  have hst := hw.newRow el k m m cur (Nat.le_refl _) (by unfold maxLen; omega) hsz
  rw [List.take_of_length_le (by simp [hsz])] at hst
  refine ⟨_, _, _, ?_, ⟨some ⟨w.heap.size, 0, none⟩, rfl, rfl⟩, hst⟩
  have hnot : ¬ (16777216 < m * k) := by omega
  unfold litCells at hf
  by_cases h0 : m * k = 0
  · have harr : ∀ f : Nat → Value, (Array.range (m * k)).map f = #[] := fun f => by rw [h0]; simp
    rw [harr] at hf
    simp only [execOp, Instr.buildSlice, Sem.run_bind, run_underlying ht, hs, hnot, h0, if_true, if_false, Sem.run_pure, Result.andThen_ok, Array.toList_map, hp, newRow, Array.range_zero', Array.map_empty, hf, run_newObj, Sem.run_ite]
    rfl
  · simp only [execOp, Instr.buildSlice, Sem.run_bind, run_underlying ht, hs, hz, hnot, h0, if_false, Sem.run_pure, Result.andThen_ok, Array.toList_map, hp, newRow, hf, run_newObj, Sem.run_ite, Sem.run_map]
    rfl

theorem getElem?_flatten_replicate (m k j : Nat) (l : List Value) (hl : l.length = k) : (List.replicate m l).flatten[j]? = if j < m * k then l[j % k]? else none := by
  induction m generalizing j with
  | zero => simp
  | succ m ih =>
    rw [List.replicate_succ, List.flatten_cons, List.getElem?_append]
    by_cases hj : j < k
    · rw [if_pos (by omega), if_pos (by rw [Nat.succ_mul]; omega), Nat.mod_eq_of_lt hj]
    · rw [if_neg (by omega), ih, hl]
      by_cases h2 : j - k < m * k
      · rw [if_pos h2, if_pos (by rw [Nat.succ_mul]; omega), ← Nat.mod_eq_sub_mod (by omega)]
      · rw [if_neg h2, if_neg (by rw [Nat.succ_mul]; omega)]

/-- make([]T, m): m elements, each zero. -/
theorem JO.makeSlice {t el k m : Nat} {x : Operand} {z : Value} {zc : List Value} {ti : TypeInfo} (ht : P.underlying t = some (.slice el)) (hti : ∀ w, (typeInfo el).run P w = .ok ti w) (hk : ti.size = k) (hz : ti.zero = some z) (hzl : z.cells.toList = zc) (hzk : zc.length = k)
    (hx : rd n e x = .int .i64 m) (hm : m ≤ maxLen) (hb : ti.bytes * m ≤ 281474976710656) :
    JO P n w0 D L e ⟨d, .makeSlice t x x, ty, pos, aft, gd⟩ (fun u L' => ∃ a, u = .slice a m m ∧ L' = .row (.slice a m m) el k m ((List.replicate m zc).flatten) :: L) := JO.ofRun fun w hw => by
  have hzc : z.cells.size = k := by rw [← hzk, ← hzl, Array.length_toList]
  subst hzl
  have hm' : (m : Int) ≤ 9223372036854775807 := by unfold maxLen at hm; omega
  have wl : IntKind.i64.wrap (m : Int) = m := wr ⟨rfl, by omega, hm'⟩
  have n3 : ¬ ((m : Int) < 0) := by omega
  have n2 : ¬ (281474976710656 < (ti.bytes : Int) * (m : Int)) := by
    have : ((ti.bytes * m : Nat) : Int) ≤ 281474976710656 := by omega
    rw [Int.natCast_mul] at this
    omega
  have hsz : ((Array.range (m * k)).map (z.cells[· % z.cells.size]!)).size = m * k := by simp
  have hst := hw.newRow el k m m ((Array.range (m * k)).map (z.cells[· % z.cells.size]!)) (Nat.le_refl _) hm hsz
  rw [List.take_of_length_le (by simp)] at hst
  have hcs : ((Array.range (m * k)).map (z.cells[· % z.cells.size]!)).toList = (List.replicate m z.cells.toList).flatten := by
    apply List.ext_getElem?
    intro j
    rw [getElem?_flatten_replicate m k j z.cells.toList (by simpa using hzc)]
    by_cases hj : j < m * k
    · have hk0 : 0 < k := by
        rcases Nat.eq_zero_or_pos k with h | h
        · subst h; simp at hj
        · exact h
      have hjk : j % k < z.cells.size := by rw [hzc]; exact Nat.mod_lt _ hk0
      rw [if_pos hj]
      have hjk' : j % k < k := by rw [hzc] at hjk; exact hjk
      simp [hj, hzc, Array.getElem!_eq_getD, Array.getD, hjk']
    · rw [if_neg hj]
      simp [hj]
  rw [hcs] at hst
  refine ⟨_, _, _, ?_, ⟨some ⟨w.heap.size, 0, none⟩, rfl, rfl⟩, hst⟩
  by_cases h0 : m * k = 0
  · have harr : ∀ f : Nat → Value, (Array.range (m * k)).map f = #[] := fun f => by rw [h0]; simp
    have harr0 : ∀ f : Nat → Value, (Array.range 0).map f = #[] := fun f => by simp
    simp [execOp, Instr.makeSlice, run_underlying ht, hx, asInt, asIntOf, sizeOf, hti, hk, wl, n2, n3, h0, newRow, harr0]
  · simp [execOp, Instr.makeSlice, run_underlying ht, hx, asInt, asIntOf, sizeOf, zeroValue, hti, hk, hz, wl, n2, n3, h0, newRow]

/-- Where the elements of an append come from. -/
def Src (P : Program) (w : World) (k m : Nat) (x : Value) (news : List Value) : Prop :=
  (∀ w', w'.heap = w.heap → (Builtin.firstCells k m x).run P w' = .ok news.toArray w') ∧ (Builtin.lenOf x).run P w = .ok m w ∧ news.length = m * k ∧ ∀ u ∈ news, u.oneCell' = true

theorem Src.sees {k m m' c : Nat} {a : Option Addr} {cs : List Value} (h : Sees w (.slice a m c) k m' cs) (h1 : ∀ u ∈ cs, u.oneCell' = true) : Src P w k m' (.slice a m c) cs := by
  obtain ⟨hl, h⟩ := h
  rcases h with ⟨hv, rfl⟩ | ⟨b, o, cap, hv, h2, h3, h4, h5⟩
  · simp only [Value.slice.injEq] at hv
    obtain ⟨rfl, rfl, rfl⟩ := hv
    simp only [Nat.zero_mul, List.length_eq_zero_iff] at hl
    subst hl
    exact ⟨fun w' _ => by simp [Builtin.firstCells], by simp [Builtin.lenOf], by simp, by simp⟩
  · simp only [Value.slice.injEq] at hv
    obtain ⟨rfl, rfl, rfl⟩ := hv
    refine ⟨fun w' hw' => run_firstCells_some w' k m ⟨b, o, none⟩ m c cs hl fun j v hj => ?_, by simp [Builtin.lenOf], hl, h1⟩
    rw [add_lit]
    have := h5 j v hj
    simpa [World.cell?, hw'] using this

/-- append, whatever the room: the row behind the slice is owned. -/
theorem JO.append (i : Nat) {t u el k m c q by' : Nat} {x y : Operand} {vy : Value} {a : Option Addr} {cs news : List Value} {ti : TypeInfo} {z : Value} {el2 : TypeId}
    (hL : L[i]? = some (.row (.slice a m c) el k m cs)) (ht : P.underlying t = some (.slice el)) (hu : P.underlying u = some (.slice el2))
    (hti : ∀ w, (typeInfo el).run P w = .ok ti w) (hk : ti.size = k) (hby : ti.bytes = by') (hz : ti.zero = some z) (hzc : z.cells.size = k)
    (hx : rd n e x = .slice a m c) (hy : rd n e y = vy) (hsrc : ∀ w, St w0 D L w → Src P w k q vy news) (hb : (m + q) * by' ≤ 140737488355328) (hmax : m + q ≤ 9223372036854775807) :
    JO P n w0 D L e ⟨d, .call ⟨.builtin .append, #[x, y], #[t, u]⟩, ty, pos, aft, gd⟩ (fun v L' => ∃ a' c', v = .slice a' (m + q) c' ∧ L' = L.set i (.row (.slice a' (m + q) c') el k (m + q) (cs ++ news))) := JO.ofRun fun w hw => by
  have hrow := hw.get hL
  obtain ⟨hnf, hlen, hnl, hone⟩ := hsrc w hw
  have hnews := hnf w rfl
  have hnewsD : (Builtin.firstCells k q vy).run P w.drew = .ok news.toArray w.drew := hnf w.drew rfl
  have h63 : ¬ (9223372036854775807 < ((m : Int) + (q : Int))) := by omega
  have hsl : cs.length = m * k := hrow.1
  by_cases hroom : m + q ≤ c
  · rcases hrow.2 with ⟨hv, h0⟩ | ⟨g, cap, cur, hv, hg0, hg, h1, h2, h3, h4⟩
    · simp only [Value.slice.injEq] at hv
      obtain ⟨rfl, rfl, rfl⟩ := hv
      have hq : q = 0 := by omega
      subst hq
      have hn0 : news = [] := by simpa using hnl
      subst hn0
      refine ⟨_, _, w, ?_, ⟨none, 0, rfl, rfl⟩, ?_⟩
      · simp [execOp, resolve, invoke, builtin, hx, hy, Builtin.append_, run_underlying ht, run_underlying hu, sizeOf, hti, hk, hlen, hnews]
      · have : L.set i (.row (.slice none (0 + 0) 0) el k (0 + 0) (cs ++ [])) = L := by
          rw [List.append_nil]
          exact List.ext_getElem? fun j => by
            rw [List.getElem?_set]
            split
            · rename_i hij; subst hij; split <;> simp_all
            · rfl
        rw [this]; exact hw
    · simp only [Value.slice.injEq] at hv
      obtain ⟨rfl, _, rfl⟩ := hv
      have hfit : m * k + 0 + news.length ≤ cur.size := by
        rw [h3, hnl, Nat.add_zero, ← Nat.add_mul]; exact Nat.mul_le_mul_right _ hroom
      have hst := run_storeCells_R P g (m * k) el news 0 cur w hg hfit hone
      simp only [Nat.add_zero] at hst
      refine ⟨_, _, w.setRow g (cur.toList.take (m * k) ++ news ++ cur.toList.drop (m * k + news.length)).toArray, ?_, ⟨some ⟨g, 0, none⟩, c, rfl, rfl⟩, ?_⟩
      · simp [execOp, resolve, invoke, builtin, hx, hy, Builtin.append_, run_underlying ht, run_underlying hu, sizeOf, hti, hk, hlen, hnews, hroom, add_lit, hst]
      · refine hw.turn1 hL rfl rfl rfl (by simp) (fun q' _ hq' => setRow_other w g q' _ (by simpa [Res.ids, Value.ownBlock] using hq')) ?_ (by simp [Res.ids, Value.ownBlock]) (fun q' hq' => .inl (by simpa [Res.ids, Value.ownBlock] using hq'))
        refine ⟨by rw [List.length_append, hsl, hnl, Nat.add_mul], .inr ⟨g, c, _, rfl, hg0, hg.setRow (by simp only [List.size_toArray, List.length_append, List.length_take, List.length_drop, Array.length_toList]; omega), hroom, h2, ?_, ?_⟩⟩
        · simp only [List.size_toArray, List.length_append, List.length_take, List.length_drop, Array.length_toList]
          omega
        · rw [h4, List.append_assoc, ← List.append_assoc cs]
          rw [List.take_append_of_le_length (by rw [List.length_append, hsl, hnl, Nat.add_mul]; exact Nat.le_refl _)]
          exact List.take_of_length_le (by rw [List.length_append, hsl, hnl, Nat.add_mul]; exact Nat.le_refl _)
  · have hnr : ¬ (m + q ≤ c) := hroom
    have h48 : ¬ (281474976710656 < Builtin.nextslicecap (m + q) c * by') := by
      have := growslice_fits (need := m + q) (old := c) (bytes := by') (by omega) hb
      omega
    have hold : (Builtin.firstCells k m (.slice a m c)).run P w.drew = .ok cs.toArray w.drew := by
      rcases hrow.2 with ⟨hv, h0⟩ | ⟨g, cap, cur, hv, hg0, hg, h1, h2, h3, h4⟩
      · simp only [Value.slice.injEq] at hv
        obtain ⟨rfl, rfl, rfl⟩ := hv
        simp only [Nat.zero_mul, List.length_eq_zero_iff] at hsl
        subst hsl
        simp [Builtin.firstCells]
      · simp only [Value.slice.injEq] at hv
        obtain ⟨rfl, _, rfl⟩ := hv
        refine run_firstCells_some w.drew k m ⟨g, 0, none⟩ m c cs hsl fun j v hj => ?_
        obtain ⟨g', hg', hc'⟩ := row_cell hrow hj
        simp only [Option.some.injEq, Addr.mk.injEq, and_true] at hg'
        rw [add_lit, Nat.zero_add, hg', World.cell?_drew]
        exact hc'
    have hgc := grownCap_ge w (m + q) c el
    have hgm := grownCap_le_maxLen w (m + q) c el (by unfold maxLen; omega)
    have hrest : (Builtin.zeroCells z.cells (grownCap w (m + q) c el - (m + q))).size = (grownCap w (m + q) c el - (m + q)) * k := by rw [size_zeroCells, hzc]
    have hst := (hw.drew).turn (A := [.row (.slice a m c) el k m cs]) (F := L.eraseIdx i)
      (A' := [.row (.slice (some ⟨w.heap.size, 0, none⟩) (m + q) (grownCap w (m + q) c el)) el k (m + q) (cs ++ news)])
      (w' := w.drew.alloc (.cells (cs.toArray ++ news.toArray ++ Builtin.zeroCells z.cells (grownCap w (m + q) c el - (m + q))) el))
      (perm_set i _ (.row (.slice a m c) el k m cs) hL).1 rfl rfl rfl (by simp) (fun q' hq' _ => Below.heap_alloc _ _ _ hq') (by
        intro r hr
        simp only [List.mem_singleton] at hr
        subst hr
        refine ⟨by rw [List.length_append, hsl, hnl, Nat.add_mul], .inr ⟨w.heap.size, _, _, rfl, Nat.zero_le _, CellsAt.new w.drew _ _, hgc, hgm, ?_, ?_⟩⟩
        · simp only [Array.size_append, List.size_toArray, hsl, hnl, hrest]
          rw [← Nat.add_mul, ← Nat.add_mul]
          congr 1
          omega
        · simp only [Array.toList_append]
          rw [List.take_append_of_le_length (by rw [List.length_append, hsl, hnl, Nat.add_mul]; exact Nat.le_refl _)]
          exact List.take_of_length_le (by rw [List.length_append, hsl, hnl, Nat.add_mul]; exact Nat.le_refl _)) (by simp [idsOf, Res.ids, Value.ownBlock]) (by
        intro j hj
        simp only [idsOf, Res.ids, Value.ownBlock, List.flatMap_cons, List.flatMap_nil, List.append_nil, Option.mem_toList, Option.some.injEq] at hj
        exact .inr (by rw [← hj]; exact Nat.le_refl _))
    refine ⟨_, _, _, ?_, ⟨some ⟨w.heap.size, 0, none⟩, grownCap w (m + q) c el, rfl, rfl⟩, hst.perm (perm_set i _ _ hL).2⟩
    have h63' : ¬ (9223372036854775807 < ((m : Int) + (q : Int))) := h63
    simp [execOp, resolve, invoke, builtin, hx, hy, Builtin.append_, run_underlying ht, run_underlying hu, sizeOf, hti, hk, hby, hz, hlen, hnr, h63, h48, Question.forced, hold, hnewsD, newRow, zeroValue, grownCap]
    congr 2
    apply Array.ext'
    simp [List.append_assoc]

end
end Go.Proofs.YtkmpmjficoohkaaGreat
