/-
  A small logic of symbolic execution over the walk's rules: a state is a list of owned resources and an environment of slots; the world itself never shows. No program in sight.
-/
import Derived.Test.YtkmpmjficoohkaaGreatGl
import Derived.Test.YtkmpmjficoohkaaGreatDat
set_option linter.unusedSimpArgs false
set_option linter.unusedVariables false
set_option linter.unnecessarySimpa false
namespace Go.Proofs.YtkmpmjficoohkaaGreat
open Go Go.RowKit

def str (l : Str) : Value := .string ⟨l.toArray⟩

abbrev Env := Nat → Value
def upd (e : Env) (d : Nat) (v : Value) : Env := fun i => bif Nat.beq i d then v else e i
def updO (e : Env) (d : Option Nat) (v : Value) : Env := match d with | some d => upd e d v | none => e
def act (n : Nat) (e : Env) : Act := { tmps := Array.ofFn (n := n) (fun i => e i.val), defers := [] }
def rd (n : Nat) (e : Env) : Operand → Value
  | .tmp t => bif Nat.blt t n then e t else undef
  | .const v => v
  | .global g => .pointer (some ⟨g, 0, none⟩)
  | .func f => .func (.func f) #[] #[]

theorem act_eval (n : Nat) (e : Env) (x : Operand) : (act n e).eval x = rd n e x := by
  cases x with
  | tmp t =>
    simp only [Act.eval, act, rd]
    by_cases h : t < n
    · have : Nat.blt t n = true := by simp [Nat.blt_eq, h]
      simp [this, h]
    · have : Nat.blt t n = false := by
        cases hb : Nat.blt t n with
        | false => rfl
        | true => exact absurd (Nat.blt_eq ▸ hb) h
      simp [this, h]
  | const v => rfl
  | global g => rfl
  | func f => rfl

theorem act_eval' (n : Nat) (e : Env) : (act n e).eval = rd n e := funext (act_eval n e)

theorem act_put (n : Nat) (e : Env) (d : Option Nat) (v : Value) : (act n e).put d v = act n (updO e d v) := by
  cases d with
  | none => rfl
  | some d =>
    simp only [Act.put, act, updO, upd]
    congr 1
    apply Array.ext
    · simp
    · intro i h1 h2
      by_cases hd : d = i
      · subst hd; simp
      · have : Nat.beq i d = false := by
          cases hb : Nat.beq i d with
          | false => rfl
          | true => exact absurd (Nat.eq_of_beq_eq_true hb).symm hd
        have h3 : i < (Array.ofFn (n := n) fun i => e i.val).size := by simpa using h2
        rw [Array.getElem_setIfInBounds_ne h3 hd]
        simp only [Array.getElem_ofFn, this, cond_false]

/-- A block of cells; nothing of them is frozen (but a row of bytes may bear the mark of a text's copy behind its last cell). -/
def CellsAt (w : World) (g : Nat) (cur : Array Value) (t : TypeId) : Prop := ∃ fz : Nat × Nat, w.heap[g]? = some (.cells cur t fz) ∧ (fz.2 ≤ fz.1 ∨ (cur.size ≤ fz.1 ∧ t = TB))
section
variable {w w' : World} {g : Nat} {cur cs : Array Value} {t : TypeId}
theorem CellsAt.lt (h : CellsAt w g cur t) : g < w.heap.size := by
  obtain ⟨fz, h, _⟩ := h
  exact (Array.getElem?_eq_some_iff.1 h).1
theorem CellsAt.cell (h : CellsAt w g cur t) (o : Nat) : w.cell? ⟨g, o, none⟩ = cur[o]? := by
  obtain ⟨fz, h, _⟩ := h
  exact cell_of_row w g o cur t fz h
theorem CellsAt.keep (h : CellsAt w g cur t) (hk : w'.heap[g]? = w.heap[g]?) : CellsAt w' g cur t := by
  obtain ⟨fz, h, hz⟩ := h
  exact ⟨fz, hk.trans h, hz⟩
theorem CellsAt.setRow (h : CellsAt w g cur t) (hs : cs.size = cur.size) : CellsAt (w.setRow g cs) g cs t := by
  obtain ⟨fz, h, hz⟩ := h
  exact ⟨fz, setRow_heap w g cur cs t fz h, by rw [hs]; exact hz⟩
theorem CellsAt.new (w : World) (cur : Array Value) (t : TypeId) : CellsAt (w.alloc (.cells cur t)) w.heap.size cur t := ⟨(0, 0), heap_alloc_new w _, .inl (Nat.le_refl _)⟩
theorem CellsAt.shape (h : CellsAt w g cur t) : w.shape? g = some (t, cur.size) := by
  obtain ⟨fz, h, _⟩ := h
  simp [World.shape?, h]
theorem CellsAt.unfrozen (h : CellsAt w g cur t) {o : Nat} (ho : o < cur.size ∨ t ≠ TB) : w.frozen? ⟨g, o, none⟩ = false := by
  obtain ⟨⟨lo, hi⟩, h, hz⟩ := h
  simp only [World.frozen?, h, Bool.and_eq_false_iff, decide_eq_false_iff_not]
  simp only at hz
  rcases hz with hz | ⟨hz, ht⟩
  · omega
  · rcases ho with ho | ho
    · omega
    · exact absurd ht ho
end
theorem run_storeCells_R (P : Program) (g o : Nat) (t : TypeId) : ∀ (vs : List Value) (i : Nat) (cur : Array Value) (w : World), CellsAt w g cur t → o + i + vs.length ≤ cur.size → (∀ v ∈ vs, v.oneCell' = true) →
    (storeCells ⟨g, o, none⟩ vs i).run P w = .ok () (w.setRow g (cur.toList.take (o + i) ++ vs ++ cur.toList.drop (o + i + vs.length)).toArray)
  | [], i, cur, w, hg, _, _ => by
    obtain ⟨fz, hg, _⟩ := hg
    simp only [storeCells, List.append_nil, List.length_nil, Nat.add_zero, List.take_append_drop, Array.toArray_toList]
    rw [setRow_self w g cur t fz hg]
    rfl
  | v :: rest, i, cur, w, hg, hl, h1 => by
    have hi : o + i < cur.size := by simp at hl; omega
    have hadd : (⟨g, o, none⟩ : Addr).add i = ⟨g, o + i, none⟩ := by unfold Addr.add; split <;> simp_all
    have hcell : w.cell? ⟨g, o + i, none⟩ = some cur[o + i] := by rw [hg.cell]; simp [hi]
    have hfro : w.frozen? ⟨g, o + i, none⟩ = false := hg.unfrozen (.inl hi)
    have hgg := hg
    obtain ⟨fz, hg', _⟩ := hgg
    have hst : (store ((⟨g, o, none⟩ : Addr).add i) v).run P w = .ok () (w.setRow g (cur.setIfInBounds (o + i) v)) := by
      rw [hadd, run_store P w _ v _ (h1 v (by simp)), hcell]
      simp [hfro, setCell_eq_setRow w g (o + i) cur t fz v hg']
    have ih := run_storeCells_R P g o t rest (i + 1) (cur.setIfInBounds (o + i) v) (w.setRow g (cur.setIfInBounds (o + i) v)) (hg.setRow (by simp)) (by simp at hl ⊢; omega) (fun x hx => h1 x (by simp [hx]))
    simp only [storeCells, Sem.run_bind, hst, Result.andThen_ok, ih, setRow_setRow]
    congr 3
    have e := list_seg_step cur.toList (o + i) v rest (by simp at hl ⊢; omega)
    simpa [Array.toList_setIfInBounds, Nat.add_assoc] using e
/-- A slice value that owns its cells. -/
def World.ownsR (w : World) (base : Nat) (e : TypeId) (size : Nat) (v : Value) (n : Nat) (xs : List Value) : Prop :=
  xs.length = n * size ∧
  ((v = .slice none 0 0 ∧ n = 0) ∨
   ∃ g cap cur, v = .slice (some ⟨g, 0, none⟩) n cap ∧ base ≤ g ∧ CellsAt w g cur e ∧ n ≤ cap ∧ cap ≤ maxLen ∧ cur.size = cap * size ∧ cur.toList.take (n * size) = xs)
theorem World.ownsR.lt {w : World} {base : Nat} {e : TypeId} {size : Nat} {v : Value} {n : Nat} {xs : List Value} (h : World.ownsR w base e size v n xs) : ∀ k, v.ownBlock = some k → base ≤ k ∧ k < w.heap.size := by
  intro k hk
  rcases h.2 with ⟨rfl, _⟩ | ⟨g, cap, cur, rfl, hb, hg, _⟩
  · simp [Value.ownBlock] at hk
  · simp [Value.ownBlock] at hk
    subst hk
    exact ⟨hb, hg.lt⟩
theorem World.ownsR.of {w : World} {base : Nat} {e : TypeId} {size : Nat} {v : Value} {n : Nat} {xs : List Value} (h : w.ownsRow base e size v n xs) : World.ownsR w base e size v n xs := by
  refine ⟨h.1, ?_⟩
  rcases h.2 with h | ⟨g, cap, cur, hv, hb, hg, rest⟩
  · exact .inl h
  · exact .inr ⟨g, cap, cur, hv, hb, ⟨(0, 0), hg, .inl (Nat.le_refl _)⟩, rest⟩

/-- A row behind a slice value, told. -/
structure RD where
  v : Value
  t : Nat
  k : Nat
  n : Nat
  cs : List Value
/-- What the call owns: a block known whole, a row behind a slice value, or some rows. -/
inductive Res where
  | blk (b : Nat) (o : Obj)
  | row (v : Value) (t k n : Nat) (cs : List Value)
  | rows (rs : List RD)
def RD.res (r : RD) : Res := .row r.v r.t r.k r.n r.cs

def Res.ids : Res → List Nat
  | .blk b _ => [b]
  | .row v _ _ _ _ => v.ownBlock.toList
  | .rows rs => rs.flatMap (fun r => r.v.ownBlock.toList)

def Res.holds (w : World) : Res → Prop
  | .blk b o => w.heap[b]? = some o
  | .row v t k n cs => World.ownsR w 0 t k v n cs
  | .rows rs => ∀ r ∈ rs, World.ownsR w 0 r.t r.k r.v r.n r.cs

def idsOf (L : List Res) : List Nat := L.flatMap Res.ids

theorem idsOf_cons (r : Res) (L : List Res) : idsOf (r :: L) = r.ids ++ idsOf L := by simp [idsOf]
theorem idsOf_append (L M : List Res) : idsOf (L ++ M) = idsOf L ++ idsOf M := by simp [idsOf]
theorem mem_idsOf {L : List Res} {i : Nat} : i ∈ idsOf L ↔ ∃ r ∈ L, i ∈ r.ids := by simp [idsOf]

theorem Res.lt {w : World} {r : Res} (h : r.holds w) : ∀ i ∈ r.ids, i < w.heap.size := by
  intro i hi
  cases r with
  | blk b o =>
    simp only [Res.ids, List.mem_singleton] at hi
    subst hi
    exact (Array.getElem?_eq_some_iff.1 h).1
  | row v t k n cs =>
    simp only [Res.ids, Option.mem_toList] at hi
    exact (World.ownsR.lt h i hi).2
  | rows rs =>
    simp only [Res.ids, List.mem_flatMap, Option.mem_toList] at hi
    obtain ⟨q, hq, hi⟩ := hi
    exact (World.ownsR.lt (h q hq) i hi).2

theorem World.ownsR.same {w w' : World} {t k n : Nat} {v : Value} {cs : List Value} (h : World.ownsR w 0 t k v n cs) (hs : ∀ i, v.ownBlock = some i → w'.heap[i]? = w.heap[i]?) : World.ownsR w' 0 t k v n cs := by
  refine ⟨h.1, ?_⟩
  rcases h.2 with hn | ⟨g, cap, cur, rfl, hb, hgg, rest⟩
  · exact .inl hn
  · exact .inr ⟨g, cap, cur, rfl, hb, hgg.keep (hs g (by simp [Value.ownBlock])), rest⟩
/-- A resource that lies outside what turned still holds. -/
theorem Res.holds_of_same {w w' : World} {r : Res} (h : r.holds w) (hs : ∀ i ∈ r.ids, w'.heap[i]? = w.heap[i]?) : r.holds w' := by
  cases r with
  | blk b o => simp only [Res.holds] at *; rw [hs b (by simp [Res.ids])]; exact h
  | row v t k n cs =>
    simp only [Res.holds] at *
    refine ⟨h.1, ?_⟩
    rcases h.2 with hn | ⟨g, cap, cur, rfl, hb, hgg, rest⟩
    · exact .inl hn
    · refine .inr ⟨g, cap, cur, rfl, hb, ?_, rest⟩
      exact hgg.keep (hs g (by simp [Res.ids, Value.ownBlock]))
  | rows rs =>
    intro q hq
    refine World.ownsR.same (h q hq) fun i hi => hs i ?_
    simp only [Res.ids, List.mem_flatMap, Option.mem_toList]
    exact ⟨q, hq, hi⟩

/-- The resources hold, and no block is owned twice. -/
structure Has (L : List Res) (w : World) : Prop where
  holds : ∀ r ∈ L, r.holds w
  nodup : (idsOf L).Nodup
  low : ∀ i ∈ idsOf L, GB ≤ i
  room : GB ≤ w.heap.size
  glob : Glob w

/-- Since w0 nothing has turned but the blocks D and new ones; of these the resources L are known. -/
structure St (w0 : World) (D : List Nat) (L : List Res) (w : World) : Prop extends Has L w where
  os : w.os = w0.os
  tape : w.tape = w0.tape
  output : w.output = w0.output
  size : w0.heap.size ≤ w.heap.size
  fresh : ∀ i ∈ idsOf L, i ∈ D ∨ w0.heap.size ≤ i
  keep : ∀ k, k < w0.heap.size → k ∉ D → w.heap[k]? = w0.heap[k]?

theorem St.start {L : List Res} {w : World} (h : Has L w) : St w (idsOf L) L w :=
  ⟨h, rfl, rfl, rfl, Nat.le_refl _, fun _ hi => .inl hi, fun _ _ _ => rfl⟩

theorem idsOf_sublist {L M : List Res} (hs : M.Sublist L) : (idsOf M).Sublist (idsOf L) := by
  induction hs with
  | slnil => exact List.Sublist.refl _
  | cons r _ ih => rw [idsOf_cons]; exact ih.trans (List.sublist_append_right _ _)
  | cons_cons r _ ih => rw [idsOf_cons, idsOf_cons]; exact List.Sublist.append (List.Sublist.refl _) ih

theorem idsOf_perm {L M : List Res} (hs : M.Perm L) : (idsOf M).Perm (idsOf L) := by
  unfold idsOf
  exact List.Perm.flatMap_right _ hs

theorem Has.sub {L M : List Res} {w : World} (h : Has L w) (hs : M.Sublist L) : Has M w :=
  ⟨fun r hr => h.holds r (hs.subset hr), List.Nodup.sublist (idsOf_sublist hs) h.nodup, fun i hi => h.low i ((idsOf_sublist hs).subset hi), h.room, h.glob⟩

theorem Has.perm {L M : List Res} {w : World} (h : Has L w) (hs : M.Perm L) : Has M w :=
  ⟨fun r hr => h.holds r (hs.subset hr), (idsOf_perm hs).nodup_iff.2 h.nodup, fun i hi => h.low i ((idsOf_perm hs).subset hi), h.room, h.glob⟩

section
variable {w0 w w' : World} {D : List Nat} {L M : List Res}

theorem St.sub (h : St w0 D L w) (hs : M.Sublist L) : St w0 D M w :=
  { h with toHas := h.toHas.sub hs, fresh := fun i hi => h.fresh i ((idsOf_sublist hs).subset hi) }

theorem St.perm (h : St w0 D L w) (hs : M.Perm L) : St w0 D M w :=
  { h with toHas := h.toHas.perm hs, fresh := fun i hi => h.fresh i ((idsOf_perm hs).subset hi) }

theorem St.lt (h : St w0 D L w) : ∀ i ∈ idsOf L, i < w.heap.size := fun i hi => by
  obtain ⟨r, hr, hir⟩ := mem_idsOf.1 hi
  exact Res.lt (h.holds r hr) i hir

/-- The general step: the resources A are turned into A'; all else stays. -/
theorem St.turn {A A' F : List Res} (h : St w0 D L w) (hp : L.Perm (A ++ F)) (hos : w'.os = w.os) (htape : w'.tape = w.tape) (hout : w'.output = w.output)
    (hsize : w.heap.size ≤ w'.heap.size) (hkeep : ∀ k, k < w.heap.size → k ∉ idsOf A → w'.heap[k]? = w.heap[k]?)
    (hA : ∀ r ∈ A', r.holds w') (hAn : (idsOf A').Nodup) (hfresh : ∀ i ∈ idsOf A', i ∈ idsOf A ∨ w.heap.size ≤ i) : St w0 D (A' ++ F) w' := by
  have h2 : St w0 D (A ++ F) w := h.perm hp.symm
  have hnd := h2.nodup
  rw [idsOf_append] at hnd
  obtain ⟨_, hF, hdis⟩ := List.nodup_append.1 hnd
  have hlt := h2.lt
  have hFin : ∀ r ∈ F, r.holds w' := fun r hr => Res.holds_of_same (h2.holds r (List.mem_append_right _ hr)) fun i hi =>
    hkeep i (Res.lt (h2.holds r (List.mem_append_right _ hr)) i hi) fun hiA => hdis i hiA i (mem_idsOf.2 ⟨r, hr, hi⟩) rfl
  have hlow : ∀ i ∈ idsOf A', GB ≤ i := fun i hi => by
    rcases hfresh i hi with hiA | hge
    · exact h2.low i (by rw [idsOf_append]; exact List.mem_append_left _ hiA)
    · exact Nat.le_trans h.room hge
  have hkeepLow : ∀ k, k < GB → w'.heap[k]? = w.heap[k]? := fun k hk => hkeep k (Nat.lt_of_lt_of_le hk h.room) fun hkA => by
    have := h2.low k (by rw [idsOf_append]; exact List.mem_append_left _ hkA)
    omega
  refine ⟨⟨fun r hr => ?_, ?_, fun i hi => ?_, Nat.le_trans h.room hsize, h.glob.keep hkeepLow⟩, hos.trans h.os, htape.trans h.tape, hout.trans h.output, Nat.le_trans h.size hsize, fun i hi => ?_, fun k hk hkD => ?_⟩
  · rcases List.mem_append.1 hr with hr | hr
    · exact hA r hr
    · exact hFin r hr
  · rw [idsOf_append]
    refine List.nodup_append.2 ⟨hAn, hF, fun i hi j hj hij => ?_⟩
    subst hij
    rcases hfresh i hi with hiA | hge
    · exact hdis i hiA i hj rfl
    · exact absurd (hlt i (by rw [idsOf_append]; exact List.mem_append_right _ hj)) (by omega)
  · rw [idsOf_append] at hi
    rcases List.mem_append.1 hi with hi | hi
    · exact hlow i hi
    · exact h2.low i (by rw [idsOf_append]; exact List.mem_append_right _ hi)
  · rw [idsOf_append] at hi
    rcases List.mem_append.1 hi with hi | hi
    · rcases hfresh i hi with hiA | hge
      · exact h2.fresh i (by rw [idsOf_append]; exact List.mem_append_left _ hiA)
      · exact .inr (Nat.le_trans h.size hge)
    · exact h2.fresh i (by rw [idsOf_append]; exact List.mem_append_right _ hi)
  · rw [hkeep k (Nat.lt_of_lt_of_le hk h.size) fun hkA => ?_]
    · exact h.keep k hk hkD
    · rcases h2.fresh k (by rw [idsOf_append]; exact List.mem_append_left _ hkA) with hd | hge
      · exact hkD hd
      · omega

/-- What a reader needs of a world. -/
structure Qw (w0 : World) (D : List Nat) (L : List Res) (w : World) : Prop where
  holds : ∀ r ∈ L, r.holds w
  keep : ∀ k, k < w0.heap.size → k ∉ D → w.heap[k]? = w0.heap[k]?

theorem St.qw (h : St w0 D L w) : Qw w0 D L w := ⟨h.holds, h.keep⟩
theorem Qw.sub (h : Qw w0 D L w) (hs : ∀ r ∈ M, r ∈ L) : Qw w0 D M w := ⟨fun r hr => h.holds r (hs r hr), h.keep⟩
theorem Qw.get {i : Nat} {r : Res} (h : Qw w0 D L w) (hL : L[i]? = some r) : r.holds w := h.holds r (List.mem_of_getElem? hL)

theorem St.drew (h : St w0 D L w) : St w0 D L w.drew :=
  ⟨⟨fun r hr => Res.holds_of_same (h.holds r hr) fun _ _ => rfl, h.nodup, h.low, h.room, h.glob.keep fun _ _ => rfl⟩, h.os, h.tape, h.output, h.size, h.fresh, h.keep⟩

/-- Some rows are as good as each of them. -/
theorem idsOf_rows (rs : List RD) (L : List Res) : idsOf (.rows rs :: L) = idsOf (rs.map RD.res ++ L) := by
  rw [idsOf_cons, idsOf_append]
  congr 1
  simp only [Res.ids, idsOf, List.flatMap_map]
  rfl
theorem St.openRows {rs : List RD} (h : St w0 D (.rows rs :: L) w) : St w0 D (rs.map RD.res ++ L) w :=
  { h with
    toHas := ⟨fun r hr => by
      rcases List.mem_append.1 hr with hr | hr
      · obtain ⟨q, hq, rfl⟩ := List.mem_map.1 hr
        exact h.holds _ (List.mem_cons_self ..) q hq
      · exact h.holds r (List.mem_cons_of_mem _ hr), by rw [← idsOf_rows]; exact h.nodup, by rw [← idsOf_rows]; exact h.low, h.room, h.glob⟩
    fresh := by rw [← idsOf_rows]; exact h.fresh }
theorem St.closeRows {rs : List RD} (h : St w0 D (rs.map RD.res ++ L) w) : St w0 D (.rows rs :: L) w :=
  { h with
    toHas := ⟨fun r hr => by
      rcases List.mem_cons.1 hr with rfl | hr
      · exact fun q hq => h.holds _ (List.mem_append_left _ (List.mem_map.2 ⟨q, hq, rfl⟩))
      · exact h.holds r (List.mem_append_right _ hr), by rw [idsOf_rows]; exact h.nodup, by rw [idsOf_rows]; exact h.low, h.room, h.glob⟩
    fresh := by rw [idsOf_rows]; exact h.fresh }
theorem St.rowsApp {a b : List RD} (h : St w0 D (.rows (a ++ b) :: L) w) : St w0 D (.rows a :: .rows b :: L) w := by
  have h1 := h.openRows
  rw [List.map_append, List.append_assoc] at h1
  have h2 : St w0 D (b.map RD.res ++ (a.map RD.res ++ L)) w := h1.perm (by rw [← List.append_assoc, ← List.append_assoc]; exact List.Perm.append_right L List.perm_append_comm)
  have h3 := h2.closeRows
  have h4 : St w0 D (a.map RD.res ++ .rows b :: L) w := h3.perm (List.perm_middle)
  exact h4.closeRows
theorem St.appRows {a b : List RD} (h : St w0 D (.rows a :: .rows b :: L) w) : St w0 D (.rows (a ++ b) :: L) w := by
  have h1 := h.openRows
  have h2 : St w0 D (.rows b :: (a.map RD.res ++ L)) w := h1.perm (List.perm_middle.symm)
  have h3 := h2.openRows
  refine St.closeRows (h3.perm ?_)
  rw [List.map_append, List.append_assoc, ← List.append_assoc, ← List.append_assoc]
  exact List.Perm.append_right L List.perm_append_comm
theorem St.rowsNil (h : St w0 D L w) : St w0 D (.rows [] :: L) w := St.closeRows (rs := []) h

theorem idsOf_blk (b : Nat) (o : Obj) (L : List Res) : idsOf (.blk b o :: L) = b :: idsOf L := by simp [idsOf_cons, Res.ids]

/-- A new block. -/
theorem St.alloc (h : St w0 D L w) (o : Obj) : St w0 D (.blk w.heap.size o :: L) (w.alloc o) := by
  refine h.turn (A := []) (A' := [.blk w.heap.size o]) (F := L) (List.Perm.refl _) rfl rfl rfl (by simp) (fun k hk _ => Below.heap_alloc _ _ _ hk) ?_ ?_ ?_
  · intro r hr
    simp only [List.mem_singleton] at hr
    subst hr
    exact heap_alloc_new w o
  · simp [idsOf, Res.ids]
  · intro i hi
    simp only [idsOf, Res.ids, List.flatMap_cons, List.flatMap_nil, List.append_nil, List.mem_singleton] at hi
    exact .inr (by omega)

theorem perm_set (i : Nat) (r r' : Res) (hL : L[i]? = some r) : L.Perm ([r] ++ L.eraseIdx i) ∧ (L.set i r').Perm ([r'] ++ L.eraseIdx i) := by
  induction L generalizing i with
  | nil => simp at hL
  | cons a L ih =>
    cases i with
    | zero => simp at hL; subst hL; exact ⟨List.Perm.refl _, List.Perm.refl _⟩
    | succ i =>
      simp only [List.getElem?_cons_succ] at hL
      obtain ⟨h1, h2⟩ := ih i hL
      refine ⟨?_, ?_⟩
      · simp only [List.eraseIdx_cons_succ, List.singleton_append]
        exact ((List.Perm.cons a h1).trans (List.Perm.swap r a _))
      · simp only [List.set_cons_succ, List.eraseIdx_cons_succ, List.singleton_append]
        exact ((List.Perm.cons a h2).trans (List.Perm.swap r' a _))

theorem perm_erase (i : Nat) (r : Res) (hL : L[i]? = some r) : L.Perm (r :: L.eraseIdx i) := (perm_set i r r hL).1

/-- One resource turned in its place. -/
theorem St.turn1 {r r' : Res} {i : Nat} (h : St w0 D L w) (hL : L[i]? = some r) (hos : w'.os = w.os) (htape : w'.tape = w.tape) (hout : w'.output = w.output)
    (hsize : w.heap.size ≤ w'.heap.size) (hkeep : ∀ k, k < w.heap.size → k ∉ r.ids → w'.heap[k]? = w.heap[k]?)
    (hr : r'.holds w') (hnd : r'.ids.Nodup) (hfresh : ∀ i ∈ r'.ids, i ∈ r.ids ∨ w.heap.size ≤ i) : St w0 D (L.set i r') w' := by
  obtain ⟨h1, h2⟩ := perm_set i r r' hL
  have e1 : idsOf [r] = r.ids := by simp [idsOf]
  have e2 : idsOf [r'] = r'.ids := by simp [idsOf]
  refine (h.turn (A := [r]) (A' := [r']) h1 hos htape hout hsize (by rw [e1]; exact hkeep) ?_ (by rw [e2]; exact hnd) (by rw [e1, e2]; exact hfresh)).perm h2
  intro x hx
  simp only [List.mem_singleton] at hx
  subst hx
  exact hr

theorem St.get {i : Nat} {r : Res} (h : St w0 D L w) (hL : L[i]? = some r) : r.holds w := h.holds r (List.mem_of_getElem? hL)

end

/- ---- judgements ---- -/

section
variable {P : Program} {ops : Array Oper} {Q : Exit → Act → World → Prop} {n : Nat} {w0 : World} {D : List Nat} {L : List Res} {e : Env}

/-- A list of operations. -/
def JL (P : Program) (ops : Array Oper) (Q : Exit → Act → World → Prop) (n : Nat) (w0 : World) (D : List Nat) (L : List Res) (l : List Oper) (e : Env) : Prop :=
  ∀ w, St w0 D L w → wpList P ops Q l (act n e) w

/-- A piece of code. -/
def JC (P : Program) (Q : Exit → Act → World → Prop) (n : Nat) (w0 : World) (D : List Nat) (L : List Res) (c : Code) (e : Env) : Prop :=
  ∀ w, St w0 D L w → c.wp P Q (act n e) w

/-- An exit. -/
def JQ (Q : Exit → Act → World → Prop) (x : Exit) (n : Nat) (w0 : World) (D : List Nat) (L : List Res) (e : Env) : Prop :=
  ∀ w, St w0 D L w → Q x (act n e) w

/-- What a single operation does: it yields v and leaves the resources L'. -/
def JO (P : Program) (n : Nat) (w0 : World) (D : List Nat) (L : List Res) (e : Env) (o : Oper) (Φ : Value → List Res → Prop) : Prop :=
  ∀ w, St w0 D L w → ∀ (K : Act → World → Prop) (Q : Exit → Act → World → Prop), (∀ v L' w', Φ v L' → St w0 D L' w' → K (act n (updO e o.dst v)) w') → o.wp P (act n e) w K Q

/-- An operation that yields v and leaves the world as it is, whatever it is. -/
def PO (P : Program) (n : Nat) (e : Env) (o : Oper) (v : Value) : Prop := ∀ w, (execOp (rd n e) o).run P w = .ok (.value v) w

/-- An operation that yields v wherever the resources L hold, and leaves the world as it is. -/
def LO (P : Program) (n : Nat) (w0 : World) (D : List Nat) (L : List Res) (e : Env) (o : Oper) (v : Value) : Prop := ∀ w, Qw w0 D L w → (execOp (rd n e) o).run P w = .ok (.value v) w

theorem LO.pure {o : Oper} {v : Value} (h : PO P n e o v) : LO P n w0 D L e o v := fun w _ => h w
theorem JO.ofLO {o : Oper} {v : Value} (h : LO P n w0 D L e o v) : JO P n w0 D L e o (fun u L' => u = v ∧ L' = L) := fun w hw K Q hK => by
  unfold Oper.wp
  rw [act_eval', h w hw.qw, Oper.upon_value, act_put]
  exact hK v L w ⟨rfl, rfl⟩ hw

/-- What the resources tell of the values. -/
theorem JL.facts {l : List Oper} (h : (∃ w, St w0 D L w) → JL P ops Q n w0 D L l e) : JL P ops Q n w0 D L l e := fun w hw => h ⟨w, hw⟩ w hw
theorem JC.facts {c : Code} (h : (∃ w, St w0 D L w) → JC P Q n w0 D L c e) : JC P Q n w0 D L c e := fun w hw => h ⟨w, hw⟩ w hw
theorem JQ.facts {x : Exit} (h : (∃ w, St w0 D L w) → JQ Q x n w0 D L e) : JQ Q x n w0 D L e := fun w hw => h ⟨w, hw⟩ w hw

theorem JL.nil (h : JQ Q .normal n w0 D L e) : JL P ops Q n w0 D L [] e := fun w hw => wpList_nil (h w hw)

theorem JL.op {o : Oper} {rest : List Oper} {Φ : Value → List Res → Prop} (hg : o.guard = none) (ho : JO P n w0 D L e o Φ)
    (h : ∀ v L', Φ v L' → JL P ops Q n w0 D L' rest (updO e o.dst v)) : JL P ops Q n w0 D L (o :: rest) e := fun w hw =>
  wpList_plain hg fun K hK => ho w hw K Q fun v L' w' hΦ hw' => hK _ _ (h v L' hΦ w' hw')

theorem JO.pure {o : Oper} {v : Value} (h : (∃ w, St w0 D L w) → PO P n e o v) : JO P n w0 D L e o (fun u L' => u = v ∧ L' = L) := fun w hw K Q hK => by
  unfold Oper.wp
  rw [act_eval', h ⟨w, hw⟩ w, Oper.upon_value, act_put]
  exact hK v L w ⟨rfl, rfl⟩ hw

theorem JL.pure {o : Oper} {rest : List Oper} {v : Value} (hg : o.guard = none) (ho : PO P n e o v)
    (h : JL P ops Q n w0 D L rest (updO e o.dst v)) : JL P ops Q n w0 D L (o :: rest) e :=
  JL.op hg (JO.pure fun _ => ho) fun _ _ ⟨hv, hL⟩ => by subst hv; subst hL; exact h

theorem JL.ld {o : Oper} {rest : List Oper} {v : Value} (hg : o.guard = none) (ho : LO P n w0 D L e o v)
    (h : JL P ops Q n w0 D L rest (updO e o.dst v)) : JL P ops Q n w0 D L (o :: rest) e :=
  JL.op hg (JO.ofLO ho) fun _ _ ⟨hv, hL⟩ => by subst hv; subst hL; exact h

theorem JL.pureS {o : Oper} {rest : List Oper} {v : Value} (hg : o.guard = none) (ho : (∃ w, St w0 D L w) → PO P n e o v)
    (h : JL P ops Q n w0 D L rest (updO e o.dst v)) : JL P ops Q n w0 D L (o :: rest) e :=
  JL.op hg (JO.pure ho) fun _ _ ⟨hv, hL⟩ => by subst hv; subst hL; exact h

/-- A guard that says yes, and one that says no. -/
theorem JL.guardOn {o : Oper} {rest : List Oper} {Φ : Value → List Res → Prop} {j : Nat} {b : Bool} {t : Tmp} (hg : o.guard = some (j, b)) (hj : (ops[j]?).bind (·.dst) = some t) (ht : Nat.blt t n = true) (hv : e t = .bool b)
    (ho : JO P n w0 D L e o Φ) (h : ∀ v L', Φ v L' → JL P ops Q n w0 D L' rest (updO e o.dst v)) : JL P ops Q n w0 D L (o :: rest) e := fun w hw => by
  have hlt : t < n := (Nat.blt_eq (x := t) (y := n)) ▸ ht
  have hy : yielded ops (act n e).tmps j = some b := by simp [yielded, hj, act, hlt, hv]
  refine wpList_step fun K hK => ?_
  rw [if_pos (by simp [Region.wanted, hg, hy])]
  exact ho w hw K Q fun v L' w' hΦ hw' => hK _ _ (h v L' hΦ w' hw')

theorem JL.guardOff {o : Oper} {rest : List Oper} {j : Nat} {b : Bool} {t : Tmp} (hg : o.guard = some (j, !b)) (hj : (ops[j]?).bind (·.dst) = some t) (ht : Nat.blt t n = true) (hv : e t = .bool b)
    (h : JL P ops Q n w0 D L rest (updO e o.dst undef)) : JL P ops Q n w0 D L (o :: rest) e := fun w hw => by
  have hlt : t < n := (Nat.blt_eq (x := t) (y := n)) ▸ ht
  have hy : yielded ops (act n e).tmps j = some b := by simp [yielded, hj, act, hlt, hv]
  refine wpList_step fun K hK => ?_
  rw [if_neg (by cases b <;> simp [Region.wanted, hg, hy]), act_put]
  exact hK _ _ (h w hw)

/-- The list of resources, read otherwise. -/
theorem JL.setL {l : List Oper} {L' : List Res} (hL : L' = L) (h : JL P ops Q n w0 D L' l e) : JL P ops Q n w0 D L l e := hL ▸ h
theorem JL.perm {l : List Oper} {L' : List Res} (hL : L'.Perm L) (h : JL P ops Q n w0 D L' l e) : JL P ops Q n w0 D L l e := fun w hw => h w (hw.perm hL)
theorem JQ.sub {x : Exit} {L' : List Res} (hL : L'.Sublist L) (h : JQ Q x n w0 D L' e) : JQ Q x n w0 D L e := fun w hw => h w (hw.sub hL)
theorem JQ.perm {x : Exit} {L' : List Res} (hL : L'.Perm L) (h : JQ Q x n w0 D L' e) : JQ Q x n w0 D L e := fun w hw => h w (hw.perm hL)
theorem JC.sub {c : Code} {L' : List Res} (hL : L'.Sublist L) (h : JC P Q n w0 D L' c e) : JC P Q n w0 D L c e := fun w hw => h w (hw.sub hL)
theorem JC.perm {c : Code} {L' : List Res} (hL : L'.Perm L) (h : JC P Q n w0 D L' c e) : JC P Q n w0 D L c e := fun w hw => h w (hw.perm hL)

theorem JC.region {id : Nat} {l : List Oper} (h : JL P l.toArray Q n w0 D L l e) : JC P Q n w0 D L (.region id l.toArray false) e := fun w hw => wp_region_lit (h w hw)
theorem JC.seq {x y : Code} (h : JC P (Exit.then (y.wp P Q) Q) n w0 D L x e) : JC P Q n w0 D L (.seq x y) e := fun w hw => wp_seq (h w hw)
theorem JQ.seq {y : Code} (h : JC P Q n w0 D L y e) : JQ (Exit.then (y.wp P Q) Q) .normal n w0 D L e := fun w hw => h w hw
theorem JQ.thenExit {K : Act → World → Prop} {id : Nat} (h : JQ Q (.exit id) n w0 D L e) : JQ (Exit.then K Q) (.exit id) n w0 D L e := h
theorem JQ.thenRet {K : Act → World → Prop} (h : JQ Q .ret n w0 D L e) : JQ (Exit.then K Q) .ret n w0 D L e := h
theorem JC.skip (h : JQ Q .normal n w0 D L e) : JC P Q n w0 D L .skip e := fun w hw => wp_skip (h w hw)
theorem JC.exit {id : Nat} (h : JQ Q (.exit id) n w0 D L e) : JC P Q n w0 D L (.exit id) e := fun w hw => wp_exit (h w hw)
theorem JC.ret (h : JQ Q .ret n w0 D L e) : JC P Q n w0 D L .ret e := fun w hw => wp_ret (h w hw)
theorem JC.condT {c : Operand} {x y : Code} (hc : rd n e c = .bool true) (h : JC P Q n w0 D L x e) : JC P Q n w0 D L (.cond c x y) e := fun w hw => wp_cond_true (by rw [act_eval]; exact hc) (h w hw)
theorem JC.condF {c : Operand} {x y : Code} (hc : rd n e c = .bool false) (h : JC P Q n w0 D L y e) : JC P Q n w0 D L (.cond c x y) e := fun w hw => wp_cond_false (by rw [act_eval]; exact hc) (h w hw)
theorem JC.block {id : Nat} {c : Code} (h : JC P (Exit.inBlock id Q) n w0 D L c e) : JC P Q n w0 D L (.block id c) e := fun w hw => wp_block (h w hw)
theorem JQ.blockN {id : Nat} (h : JQ Q .normal n w0 D L e) : JQ (Exit.inBlock id Q) .normal n w0 D L e := fun w hw => h w hw
theorem JQ.blockE {id : Nat} (h : JQ Q .normal n w0 D L e) : JQ (Exit.inBlock id Q) (.exit id) n w0 D L e := fun w hw => by
  have := h w hw
  simpa [Exit.inBlock] using this
theorem JQ.blockO {id id' : Nat} (hne : Nat.beq id' id = false) (h : JQ Q (.exit id') n w0 D L e) : JQ (Exit.inBlock id Q) (.exit id') n w0 D L e := fun w hw => by
  have h1 := h w hw
  have hne' : id' ≠ id := fun he => by subst he; simp at hne
  simpa [Exit.inBlock, hne'] using h1
theorem JQ.blockRet {id : Nat} (h : JQ Q .ret n w0 D L e) : JQ (Exit.inBlock id Q) .ret n w0 D L e := fun w hw => h w hw

/-- The end of a round: the relation holds again, at a smaller count. -/
def Again (n : Nat) (w0 : World) (D : List Nat) (I : Nat → Env → List Res → Prop) (k : Nat) (a : Act) (w : World) : Prop :=
  ∃ k' e' L', k' < k ∧ a = act n e' ∧ St w0 D L' w ∧ I k' e' L'

theorem JQ.again {I : Nat → Env → List Res → Prop} {k : Nat} (k' : Nat) (hk : k' < k) (h : I k' e L) : JQ (Exit.then (Again n w0 D I k) Q) .normal n w0 D L e :=
  fun _ hw => ⟨k', e, L, hk, rfl, hw, h⟩

theorem JC.loop {c : Code} (I : Nat → Env → List Res → Prop) (k : Nat) (h0 : I k e L)
    (round : ∀ k e L, I k e L → JC P (Exit.then (Again n w0 D I k) Q) n w0 D L c e) : JC P Q n w0 D L (.loop c) e := by
  have key : ∀ m k, k < m → ∀ e L w, I k e L → St w0 D L w → Code.rounds P c Q m (act n e) w := by
    intro m
    induction m with
    | zero => intro k hk; omega
    | succ m ih =>
      intro k hk e L w hI hw
      rw [rounds_succ]
      refine wp_mono (round k e L hI w hw) fun x a w' hq => ?_
      cases x with
      | normal =>
        obtain ⟨k', e', L', hk', rfl, hw', hI'⟩ := hq
        exact ih k' (by omega) e' L' w' hI' hw'
      | _ => exact hq
  exact fun w hw => wp_loop_rounds (k + 1) (key (k + 1) k (by omega) e L w h0 hw)

/-- What a function does: called with these arguments, the resources A at hand, it returns v and leaves A'; of what else was there nothing has turned. -/
def Ct (P : Program) (f : FuncId) (args : List Value) (A : List Res) (Pre : World → Prop) (Post : Value → List Res → Prop) : Prop :=
  ∀ w, Has A w → Pre w → Calls P f args.toArray w (fun e w' => ∃ v A', e = .returned v ∧ Post v A' ∧ St w (idsOf A) A' w')

/-- The end of a body. -/
def Done (w0 : World) (D : List Nat) (Post : Value → List Res → Prop) (e : Ending) (w : World) : Prop :=
  ∃ v A', e = .returned v ∧ Post v A' ∧ St w0 D A' w

def argEnv (l : List Value) : Env := fun i => l.getD i undef

theorem act_args (n : Nat) (l : List Value) (h : l.length ≤ n) : ({ tmps := l.toArray ++ Array.replicate (n - l.toArray.size) undef, defers := [] } : Act) = act n (argEnv l) := by
  simp only [act, argEnv]
  congr 1
  apply Array.ext
  · simp; omega
  · intro i h1 h2
    simp only [Array.getElem_ofFn, Array.getElem_append, List.size_toArray, List.getElem_toArray, Array.getElem_replicate, List.getD_eq_getElem?_getD]
    split
    · rename_i hi; simp [hi]
    · rename_i hi; simp [List.getElem?_eq_none (by omega : l.length ≤ i)]

theorem Ct.intro {f : FuncId} {fn : Func} {c : Code} {args : List Value} {A : List Res} {Pre : World → Prop} {Post : Value → List Res → Prop}
    (hf : P.funcs[f]? = some fn) (hb : fn.body = some c) (hn : fn.ntmps = n) (hle : args.length ≤ n)
    (h : ∀ w0, Pre w0 → JC P (bodyPost P fn (Done w0 (idsOf A) Post)) n w0 (idsOf A) A c (argEnv args)) : Ct P f args A Pre Post := fun w hA hpre => by
  refine calls_of_wp hf hb ?_
  rw [hn, act_args n args hle]
  exact h w hpre w (St.start hA)

end

end Go.Proofs.YtkmpmjficoohkaaGreat
