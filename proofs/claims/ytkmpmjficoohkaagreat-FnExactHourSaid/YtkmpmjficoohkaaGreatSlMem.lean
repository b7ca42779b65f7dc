/-
  What the operations that touch memory do, in the small logic. No program in sight.
-/
import Derived.Test.YtkmpmjficoohkaaGreatSlOps
set_option linter.unusedSimpArgs false
set_option linter.unusedVariables false
set_option linter.unnecessarySimpa false
namespace Go.Proofs.YtkmpmjficoohkaaGreat
open Go Go.RowKit

section
variable {P : Program} {ops : Array Oper} {Q : Exit → Act → World → Prop} {n : Nat} {w0 w : World} {D : List Nat} {L : List Res} {e : Env}
variable {d : Option Tmp} {ty : TypeId} {pos : String} {aft : Array Edge} {gd : Option (Nat × Bool)}

/-- A block of a local variable. -/
abbrev bk (b t : Nat) (cs : List Value) : Res := .blk b (.cells cs.toArray t (0, 0))

theorem JO.ofRun {o : Oper} {Φ : Value → List Res → Prop} (h : ∀ w, St w0 D L w → ∃ v L' w', (execOp (rd n e) o).run P w = .ok (.value v) w' ∧ Φ v L' ∧ St w0 D L' w') : JO P n w0 D L e o Φ := fun w hw K Q hK => by
  obtain ⟨v, L', w', hr, hΦ, hw'⟩ := h w hw
  unfold Oper.wp
  rw [act_eval', hr, Oper.upon_value, act_put]
  exact hK v L' w' hΦ hw'

theorem JO.ofRunU {o : Oper} {Φ : Value → List Res → Prop} (h : ∀ w, St w0 D L w → ∃ L' w', (execOp (rd n e) o).run P w = .ok .skip w' ∧ Φ undef L' ∧ St w0 D L' w') : JO P n w0 D L e o Φ := fun w hw K Q hK => by
  obtain ⟨L', w', hr, hΦ, hw'⟩ := h w hw
  unfold Oper.wp
  rw [act_eval', hr, Oper.upon_skip, act_put]
  exact hK _ L' w' hΦ hw'

theorem JO.box {x : Operand} {t : TypeId} {v : Value} {cs : List Value} (hx : rd n e x = v) (hc : v.cells.toList = cs) :
    JO P n w0 D L e ⟨d, .box t x, ty, pos, aft, gd⟩ (fun u L' => ∃ b, u = .pointer (some ⟨b, 0, none⟩) ∧ L' = bk b t cs :: L) := JO.ofRun fun w hw => by
  subst hc
  refine ⟨_, _, _, ?_, ⟨w.heap.size, rfl, rfl⟩, hw.alloc _⟩
  simp [execOp, Instr.box, newVar, newRow, hx]

theorem JO.alloc {t : TypeId} {z : Value} {cs : List Value} (hz : ∀ w, (zeroValue t).run P w = .ok z w) (hc : z.cells.toList = cs) :
    JO P n w0 D L e ⟨d, .alloc t, ty, pos, aft, gd⟩ (fun u L' => ∃ b, u = .pointer (some ⟨b, 0, none⟩) ∧ L' = bk b t cs :: L) := JO.ofRun fun w hw => by
  subst hc
  refine ⟨_, _, _, ?_, ⟨w.heap.size, rfl, rfl⟩, hw.alloc _⟩
  simp [execOp, Instr.alloc, newVar, newRow, hz]

/-- A load of one cell out of a local block. -/
theorem LO.load1 (i : Nat) {x : Operand} {t ty' b o : Nat} {cs : List Value} {v : Value} {fr : Nat × Nat} (hL : L[i]? = some (.blk b (.cells cs.toArray ty' fr))) (hx : rd n e x = .pointer (some ⟨b, o, none⟩))
    (ht : ∀ w, (isAgg t).run P w = .ok false w) (hc : cs[o]? = some v) : LO P n w0 D L e ⟨d, .load t x, ty, pos, aft, gd⟩ v := fun w hw => by
  have hb : w.heap[b]? = some (.cells cs.toArray ty' fr) := hw.get hL
  have hcell : w.cell? ⟨b, o, none⟩ = some v := by simp [World.cell?, hb, hc]
  simp [execOp, hx, Instr.loadAt, Instr.sureAddr, loadVar, ht, hcell]

theorem add_lit (b o m : Nat) : (⟨b, o, none⟩ : Addr).add m = ⟨b, o + m, none⟩ := by unfold Addr.add; split <;> simp_all

/-- A load of a struct out of a local block. -/
theorem LO.loadK (i : Nat) {x : Operand} {t ty' b o k : Nat} {cs vs : List Value} {fr : Nat × Nat} (hL : L[i]? = some (.blk b (.cells cs.toArray ty' fr))) (hx : rd n e x = .pointer (some ⟨b, o, none⟩))
    (ht : ∀ w, (isAgg t).run P w = .ok true w) (hs : ∀ w, (sizeOf t).run P w = .ok k w) (hc : (cs.drop o).take k = vs) (hk : vs.length = k) :
    LO P n w0 D L e ⟨d, .load t x, ty, pos, aft, gd⟩ (.agg vs.toArray) := fun w hw => by
  have hb : w.heap[b]? = some (.cells cs.toArray ty' fr) := hw.get hL
  have hr := run_loadCells_list (P := P) (w := w) ⟨b, o, none⟩ vs fun j v hj => by
    rw [add_lit]
    subst hc
    have hj2 : cs[o + j]? = some v := by
      rw [List.getElem?_take, List.getElem?_drop] at hj
      split at hj
      · exact hj
      · cases hj
    simp [World.cell?, hb, hj2]
  rw [hk] at hr
  simp [execOp, hx, Instr.loadAt, Instr.sureAddr, loadVar, ht, hs, hr]

/-- A store into a local block: of one cell, or of a struct. -/
theorem JO.store (i : Nat) {x y : Operand} {t ty' b o k : Nat} {cs cs' vs : List Value} {v : Value} (hL : L[i]? = some (bk b ty' cs)) (hx : rd n e x = .pointer (some ⟨b, o, none⟩)) (hy : rd n e y = v) (hv : v.cells.toList = vs)
    (hs : ∀ w, (sizeOf t).run P w = .ok k w) (hk : vs.length = k) (h1 : vs.all (·.oneCell') = true) (hfit : o + k ≤ cs.length) (hc : cs.take o ++ vs ++ cs.drop (o + k) = cs') :
    JO P n w0 D L e ⟨d, .store t x y, ty, pos, aft, gd⟩ (fun _ L' => L' = L.set i (bk b ty' cs')) := JO.ofRunU fun w hw => by
  have hb : w.heap[b]? = some (.cells cs.toArray ty' (0, 0)) := hw.get hL
  have hlt : b < w.heap.size := (Array.getElem?_eq_some_iff.1 hb).1
  have hst := run_storeCells_at P b o ty' vs 0 cs.toArray w hb (by simp; omega) (fun u hu => (List.all_eq_true.1 h1) u hu)
  simp only [Nat.add_zero, hk, hc] at hst
  refine ⟨_, w.setRow b cs'.toArray, ?_, rfl, ?_⟩
  · have hcs : v.cells.size = k := by rw [← hk, ← hv, Array.length_toList]
    simp [execOp, hx, hy, Instr.storeAt, Instr.sureAddr, storeVar, hs, hcs, hv, hst]
  · refine hw.turn1 hL rfl rfl rfl (by simp) (fun q _ hq => setRow_other w b q _ (by simpa [Res.ids] using hq)) ?_ (by simp [Res.ids]) (fun q hq => .inl (by simpa [Res.ids] using hq))
    exact setRow_heap w b cs.toArray _ ty' _ hb

/- ---- slices ---- -/

/-- What is known of a slice value behind which a row is owned. -/
theorem row_form {v : Value} {t k m : Nat} {cs : List Value} (h : World.ownsR w 0 t k v m cs) : cs.length = m * k ∧ ∃ a c, v = .slice a m c ∧ (a = none → m = 0 ∧ c = 0 ∧ cs = []) ∧ m ≤ c ∧ c ≤ maxLen ∧ a.bind (·.spot) = none ∧ (∀ g, a = some g → g.off = 0) := by
  refine ⟨h.1, ?_⟩
  rcases h.2 with ⟨rfl, rfl⟩ | ⟨g, cap, cur, rfl, _, hg, h1, h2, _⟩
  · refine ⟨none, 0, rfl, fun _ => ⟨rfl, rfl, ?_⟩, Nat.le_refl _, Nat.zero_le _, rfl, fun _ h => by cases h⟩
    have := h.1
    simpa using this
  · exact ⟨some ⟨g, 0, none⟩, cap, rfl, (fun h => by cases h), h1, h2, rfl, fun g h => by cases h; rfl⟩

theorem row_some (i : Nat) {a : Option Addr} {t k m m' c : Nat} {cs : List Value} (hL : L[i]? = some (.row (.slice a m c) t k m' cs)) (h0 : 0 < m') (h : ∃ w, St w0 D L w) : a.isSome = true ∧ a.bind (·.spot) = none ∧ m = m' ∧ m ≤ c := by
  obtain ⟨w, hw⟩ := h
  obtain ⟨_, a', c', hv, h1, h2, h3, h4, _⟩ := row_form (hw.get hL)
  simp only [Value.slice.injEq] at hv
  obtain ⟨rfl, rfl, rfl⟩ := hv
  refine ⟨?_, h4, rfl, h2⟩
  cases a with
  | none => exact absurd (h1 rfl).1 (by omega)
  | some a => rfl

theorem row_cell {a : Option Addr} {t k m m' c o : Nat} {cs : List Value} {u : Value} (h : World.ownsR w 0 t k (.slice a m c) m' cs) (hu : cs[o]? = some u) : ∃ g, a = some ⟨g, 0, none⟩ ∧ w.cell? ⟨g, o, none⟩ = some u := by
  rcases h.2 with ⟨hv, rfl⟩ | ⟨g, cap, cur, hv, _, hg, h1, h2, h3, h4⟩
  · have h0 := h.1
    simp only [Nat.zero_mul, List.length_eq_zero_iff] at h0
    subst h0
    simp at hu
  · simp only [Value.slice.injEq] at hv
    obtain ⟨rfl, _, _⟩ := hv
    refine ⟨g, rfl, ?_⟩
    rw [hg.cell]
    rw [← h4, List.getElem?_take] at hu
    split at hu
    · simpa using hu
    · cases hu

/-- A load of one cell behind a slice whose row is owned. -/
theorem LO.loadR1 (i : Nat) {x : Operand} {t t' k m m' c o : Nat} {a : Option Addr} {cs : List Value} {v : Value} (hL : L[i]? = some (.row (.slice a m c) t' k m' cs)) (hx : rd n e x = elp a o)
    (ht : ∀ w, (isAgg t).run P w = .ok false w) (hc : cs[o]? = some v) : LO P n w0 D L e ⟨d, .load t x, ty, pos, aft, gd⟩ v := fun w hw => by
  obtain ⟨g, rfl, hcell⟩ := row_cell (hw.get hL) hc
  simp [execOp, hx, elp, Instr.loadAt, Instr.sureAddr, loadVar, ht, hcell]

theorem LO.loadRK (i : Nat) {x : Operand} {t t' k k' m m' c o : Nat} {a : Option Addr} {cs vs : List Value} (hL : L[i]? = some (.row (.slice a m c) t' k' m' cs)) (hx : rd n e x = elp a o)
    (ht : ∀ w, (isAgg t).run P w = .ok true w) (hs : ∀ w, (sizeOf t).run P w = .ok k w) (hc : (cs.drop o).take k = vs) (hk : vs.length = k) (h0 : 0 < k) :
    LO P n w0 D L e ⟨d, .load t x, ty, pos, aft, gd⟩ (.agg vs.toArray) := fun w hw => by
  have hat : ∀ j v, vs[j]? = some v → cs[o + j]? = some v := fun j v hj => by
    subst hc
    rw [List.getElem?_take, List.getElem?_drop] at hj
    split at hj
    · exact hj
    · cases hj
  have hex : ∃ v0, vs[0]? = some v0 := ⟨vs[0]'(by omega), List.getElem?_eq_getElem (by omega)⟩
  obtain ⟨v0, hv0⟩ := hex
  obtain ⟨g, rfl, _⟩ := row_cell (hw.get hL) (hat 0 v0 hv0)
  have hr := run_loadCells_list (P := P) (w := w) ⟨g, o, none⟩ vs fun j v hj => by
    rw [add_lit]
    obtain ⟨g', hg', hcell⟩ := row_cell (hw.get hL) (hat j v hj)
    simp only [Option.some.injEq, Addr.mk.injEq, and_true] at hg'
    rw [hg']
    exact hcell
  rw [hk] at hr
  simp [execOp, hx, elp, Instr.loadAt, Instr.sureAddr, loadVar, ht, hs, hr]

/-- A slice that can be read, whoever owns it. -/
def Sees (w : World) (v : Value) (k m : Nat) (cs : List Value) : Prop :=
  cs.length = m * k ∧ ((v = .slice none 0 0 ∧ m = 0) ∨ ∃ b o c, v = .slice (some ⟨b, o, none⟩) m c ∧ m ≤ c ∧ c ≤ maxLen ∧ b < w.heap.size ∧ ∀ j u, cs[j]? = some u → w.cell? ⟨b, o + j, none⟩ = some u)

theorem St.see {i : Nat} {a : Option Addr} {t k m m' c : Nat} {cs : List Value} (hw : St w0 D L w) (hL : L[i]? = some (.row (.slice a m c) t k m' cs)) : Sees w (.slice a m c) k m' cs := by
  have h := hw.get hL
  refine ⟨h.1, ?_⟩
  rcases h.2 with ⟨hv, rfl⟩ | ⟨g, cap, cur, hv, _, hg, h1, h2, h3, h4⟩
  · exact .inl ⟨hv, rfl⟩
  · refine .inr ⟨g, 0, cap, hv, h1, h2, hg.lt, fun j u hj => ?_⟩
    simp only [Value.slice.injEq] at hv
    obtain ⟨rfl, rfl, rfl⟩ := hv
    obtain ⟨g', hg', hcell⟩ := row_cell h hj
    simp only [Option.some.injEq, Addr.mk.injEq, and_true] at hg'
    rw [Nat.zero_add, hg']
    exact hcell

theorem cell_of_keep {k : Nat} {a : Addr} {u : Value} (hw : Qw w0 D L w) (ha : a.block = k) (hD : k ∉ D) (hu : w0.cell? a = some u) : w.cell? a = some u := by
  subst ha
  have hlt := World.block_lt_of_cell? (w := w0) (a := a) hu
  rw [World.cell?_of_block (w := w0) (hw.keep a.block hlt hD)]
  exact hu

/-- A load behind a slice that came in and is not ours. -/
theorem LO.loadS1 {x : Operand} {t k m m' c o : Nat} {a : Option Addr} {cs : List Value} {v : Value} (hs : Sees w0 (.slice a m c) k m' cs) (hD : ∀ b, (Value.slice a m c).ownBlock = some b → b ∉ D) (hx : rd n e x = elp a o)
    (ht : ∀ w, (isAgg t).run P w = .ok false w) (hc : cs[o]? = some v) : LO P n w0 D L e ⟨d, .load t x, ty, pos, aft, gd⟩ v := fun w hw => by
  obtain ⟨hl, h⟩ := hs
  rcases h with ⟨_, rfl⟩ | ⟨b, o', cap, hv, h1, h2, h3, h4⟩
  · simp only [Nat.zero_mul, List.length_eq_zero_iff] at hl
    subst hl
    simp at hc
  · simp only [Value.slice.injEq] at hv
    obtain ⟨rfl, rfl, rfl⟩ := hv
    have hcell : w.cell? ⟨b, o' + o, none⟩ = some v := cell_of_keep hw rfl (hD b (by simp [Value.ownBlock])) (h4 o v hc)
    simp [execOp, hx, elp, Instr.loadAt, Instr.sureAddr, loadVar, ht, hcell]

theorem LO.loadSK {x : Operand} {t k k' m m' c o : Nat} {a : Option Addr} {cs vs : List Value} (hs' : Sees w0 (.slice a m c) k' m' cs) (hD : ∀ b, (Value.slice a m c).ownBlock = some b → b ∉ D) (hx : rd n e x = elp a o)
    (ht : ∀ w, (isAgg t).run P w = .ok true w) (hs : ∀ w, (sizeOf t).run P w = .ok k w) (hc : (cs.drop o).take k = vs) (hk : vs.length = k) (h0 : 0 < k) :
    LO P n w0 D L e ⟨d, .load t x, ty, pos, aft, gd⟩ (.agg vs.toArray) := fun w hw => by
  have hat : ∀ j v, vs[j]? = some v → cs[o + j]? = some v := fun j v hj => by
    subst hc
    rw [List.getElem?_take, List.getElem?_drop] at hj
    split at hj
    · exact hj
    · cases hj
  obtain ⟨hl, h⟩ := hs'
  rcases h with ⟨_, rfl⟩ | ⟨b, o', cap, hv, h1, h2, h3, h4⟩
  · simp only [Nat.zero_mul, List.length_eq_zero_iff] at hl
    subst hl
    simp at hc
    subst hc
    simp at hk
    omega
  · simp only [Value.slice.injEq] at hv
    obtain ⟨rfl, rfl, rfl⟩ := hv
    have hr := run_loadCells_list (P := P) (w := w) ⟨b, o' + o, none⟩ vs fun j v hj => by
      rw [add_lit]
      exact cell_of_keep hw rfl (hD b (by simp [Value.ownBlock])) (by have := h4 (o + j) v (hat j v hj); rwa [← Nat.add_assoc] at this)
    rw [hk] at hr
    simp [execOp, hx, elp, Instr.loadAt, Instr.sureAddr, loadVar, ht, hs, hr]

theorem sees_some {a : Option Addr} {k m m' c : Nat} {cs : List Value} (h : Sees w0 (.slice a m c) k m' cs) (h0 : 0 < m') : a.isSome = true ∧ a.bind (·.spot) = none ∧ m = m' ∧ m ≤ c := by
  rcases h.2 with ⟨_, rfl⟩ | ⟨b, o', cap, hv, h1, h2, h3, h4⟩
  · omega
  · simp only [Value.slice.injEq] at hv
    obtain ⟨rfl, rfl, rfl⟩ := hv
    exact ⟨rfl, rfl, rfl, h1⟩

/-- A call. -/
def pick : List Nat → List Res → Option (List Res × List Res)
  | [], L => some ([], L)
  | i :: is, L => match L[i]? with
    | some r => match pick is (L.eraseIdx i) with
      | some (A, F) => some (r :: A, F)
      | none => none
    | none => none

theorem pick_perm : ∀ (is : List Nat) {L A F : List Res}, pick is L = some (A, F) → L.Perm (A ++ F)
  | [], L, A, F, h => by
    simp only [pick, Option.some.injEq, Prod.mk.injEq] at h
    obtain ⟨rfl, rfl⟩ := h
    exact List.Perm.refl _
  | i :: is, L, A, F, h => by
    unfold pick at h
    split at h
    · rename_i r hr
      split at h
      · rename_i A' F' hp
        simp only [Option.some.injEq, Prod.mk.injEq] at h
        obtain ⟨rfl, rfl⟩ := h
        exact (perm_erase i r hr).trans (List.Perm.cons r (pick_perm is hp))
      · cases h
    · cases h

theorem JO.call (is : List Nat) {f : FuncId} {args : Array Operand} {ats : Array TypeId} {vs : List Value} {A F : List Res} {Pre : World → Prop} {Post : Value → List Res → Prop}
    (hc : ∀ args w, (callFunc f args).run P w = .ok (.enter f args) w) (hp : pick is L = some (A, F)) (hf : Ct P f vs A Pre Post) (hv : args.toList.map (rd n e) = vs) (hpre : ∀ w, St w0 D L w → Pre w) :
    JO P n w0 D L e ⟨d, .call ⟨.value (.func f), args, ats⟩, ty, pos, aft, gd⟩ (fun v L' => ∃ A', Post v A' ∧ L' = A' ++ F) := fun w hw K Q hK => by
  have hperm := pick_perm is hp
  have hA : Has A w := ((hw.perm hperm.symm).sub (List.sublist_append_left _ _)).toHas
  have hargs : args.map (rd n e) = vs.toArray := by
    subst hv
    apply Array.ext'
    simp
  have hrun : (execOp (rd n e) ⟨d, .call ⟨.value (.func f), args, ats⟩, ty, pos, aft, gd⟩).run P w = .ok (.enter f vs.toArray) w := by
    simp [execOp, resolve, Deferred.ofValue, rd, invoke, hargs, hc]
  unfold Oper.wp
  rw [act_eval', hrun, Oper.upon_enter]
  refine (hf w hA (hpre w hw)).mono fun e' w' he => ?_
  obtain ⟨v, A', rfl, hpost, hst⟩ := he
  show K _ _
  rw [act_put]
  refine hK v (A' ++ F) w' ⟨A', hpost, rfl⟩ (hw.turn hperm hst.os hst.tape hst.output hst.size hst.keep hst.holds hst.nodup hst.fresh)

/-- A call of a function value. -/
theorem JO.callV (is : List Nat) {f : FuncId} {x : Operand} {args : Array Operand} {ats : Array TypeId} {cap vs : List Value} {A F : List Res} {Pre : World → Prop} {Post : Value → List Res → Prop}
    (hc : ∀ args w, (callFunc f args).run P w = .ok (.enter f args) w) (hp : pick is L = some (A, F)) (hf : Ct P f vs A Pre Post) (hx : rd n e x = .func (.func f) #[] cap.toArray) (hv : args.toList.map (rd n e) ++ cap = vs) (hpre : ∀ w, St w0 D L w → Pre w) :
    JO P n w0 D L e ⟨d, .call ⟨.value x, args, ats⟩, ty, pos, aft, gd⟩ (fun v L' => ∃ A', Post v A' ∧ L' = A' ++ F) := fun w hw K Q hK => by
  have hperm := pick_perm is hp
  have hA : Has A w := ((hw.perm hperm.symm).sub (List.sublist_append_left _ _)).toHas
  have hargs : args.map (rd n e) ++ cap.toArray = vs.toArray := by
    subst hv
    apply Array.ext'
    simp
  have hrun : (execOp (rd n e) ⟨d, .call ⟨.value x, args, ats⟩, ty, pos, aft, gd⟩).run P w = .ok (.enter f vs.toArray) w := by
    simp [execOp, resolve, Deferred.ofValue, hx, invoke, hargs, hc]
  unfold Oper.wp
  rw [act_eval', hrun, Oper.upon_enter]
  refine (hf w hA (hpre w hw)).mono fun e' w' he => ?_
  obtain ⟨v, A', rfl, hpost, hst⟩ := he
  show K _ _
  rw [act_put]
  refine hK v (A' ++ F) w' ⟨A', hpost, rfl⟩ (hw.turn hperm hst.os hst.tape hst.output hst.size hst.keep hst.holds hst.nodup hst.fresh)

/- the end of a body -/
theorem Done.tmp {fn : Func} {Post : Value → List Res → Prop} {x : Exit} (hx : x = .ret ∨ x = .normal) {t : Tmp} {v : Value} {A' : List Res} (hr : fn.results = #[.tmp t]) (hv : rd n e (.tmp t) = v) (hL : A'.Sublist L) (h : Post v A') :
    JQ (bodyPost P fn (Done w0 D Post)) x n w0 D L e := fun w hw => by
  have : (results fn (act n e).tmps).run P w = .ok v w := by
    rw [results_tmp hr]
    have := act_eval n e (.tmp t)
    simp only [Act.eval] at this
    rw [this, hv]
  rcases hx with rfl | rfl <;> exact ⟨rfl, v, this, v, A', rfl, h, hw.sub hL⟩

theorem Done.none {fn : Func} {Post : Value → List Res → Prop} {x : Exit} (hx : x = .ret ∨ x = .normal) {A' : List Res} (hr : fn.results = #[]) (hL : A'.Sublist L) (h : Post (.tuple #[]) A') :
    JQ (bodyPost P fn (Done w0 D Post)) x n w0 D L e := fun w hw => by
  have : (results fn (act n e).tmps).run P w = .ok (.tuple #[]) w := results_none hr _ _ _
  rcases hx with rfl | rfl <;> exact ⟨rfl, _, this, _, A', rfl, h, hw.sub hL⟩

def rvSem (tmps : Array Value) : ResultVar → Sem Value
  | .tmp t => pure (tmps.getD t undef)
  | .cell a t => do loadVar t (← asAddr (tmps.getD a undef))
theorem results_rv (fn : Func) (tmps : Array Value) : results fn tmps = (do
    let vs ← fn.results.mapM (rvSem tmps)
    pure (if h : vs.size = 1 then vs[0] else .tuple vs)) := by
  unfold results
  have : rvSem tmps = (fun r => match r with | .tmp t => pure (tmps.getD t undef) | .cell a t => (do loadVar t (← asAddr (tmps.getD a undef)))) := by
    funext r
    cases r <;> rfl
  rw [this]
  rfl
/-- How a result variable is read at the end. -/
def RV (P : Program) (n : Nat) (w0 : World) (D : List Nat) (L : List Res) (e : Env) (r : ResultVar) (v : Value) : Prop :=
  ∀ w, Qw w0 D L w → (rvSem (act n e).tmps r).run P w = .ok v w
theorem RV.tmp {t : Tmp} {v : Value} (hv : rd n e (.tmp t) = v) : RV P n w0 D L e (.tmp t) v := fun w _ => by
  have := act_eval n e (.tmp t)
  simp only [Act.eval] at this
  simp only [rvSem, this, hv]
  rfl
theorem RV.cell1 {a : Tmp} {t : TypeId} {v : Value} (h : LO P n w0 D L e ⟨none, .load t (.tmp a), 0, "", #[], none⟩ v) (hp : ∃ ad, rd n e (.tmp a) = .pointer (some ad)) : RV P n w0 D L e (.cell a t) v := fun w hw => by
  obtain ⟨ad, hp⟩ := hp
  have h1 := h w hw
  simp only [execOp, hp, Instr.loadAt, Instr.sureAddr, Sem.run_bind, Sem.run_pure, Result.andThen_ok] at h1
  have h2 := act_eval n e (.tmp a)
  simp only [Act.eval] at h2
  simp only [rvSem, h2, hp, asAddr, Sem.run_bind, Sem.run_pure, Result.andThen_ok]
  generalize (loadVar t ad).run P w = r at *
  cases r with
  | ok u w' =>
    simp only [Result.andThen_ok, Result.ok.injEq, Next.value.injEq] at h1
    obtain ⟨rfl, rfl⟩ := h1
    rfl
  | halt x w' => simp [Result.andThen] at h1

theorem Done.one {fn : Func} {Post : Value → List Res → Prop} {x : Exit} (hx : x = .ret ∨ x = .normal) {r : ResultVar} {v : Value} {A' : List Res} (hr : fn.results = #[r]) (hv : RV P n w0 D L e r v) (hL : A'.Sublist L) (h : Post v A') :
    JQ (bodyPost P fn (Done w0 D Post)) x n w0 D L e := fun w hw => by
  have hv' := hv w hw.qw
  have : (results fn (act n e).tmps).run P w = .ok v w := by
    rw [results_rv, hr]
    simp only [List.mapM_toArray, List.mapM_cons, List.mapM_nil, Sem.run_bind, Sem.run_map, hv', Result.andThen_ok, Sem.run_pure]
    rfl
  rcases hx with rfl | rfl <;> exact ⟨rfl, v, this, v, A', rfl, h, hw.sub hL⟩
theorem Done.two {fn : Func} {Post : Value → List Res → Prop} {x : Exit} (hx : x = .ret ∨ x = .normal) {r1 r2 : ResultVar} {v1 v2 : Value} {A' : List Res} (hr : fn.results = #[r1, r2]) (h1 : RV P n w0 D L e r1 v1) (h2 : RV P n w0 D L e r2 v2) (hL : A'.Sublist L)
    (h : Post (.tuple #[v1, v2]) A') : JQ (bodyPost P fn (Done w0 D Post)) x n w0 D L e := fun w hw => by
  have h1' := h1 w hw.qw
  have h2' := h2 w hw.qw
  have : (results fn (act n e).tmps).run P w = .ok (.tuple #[v1, v2]) w := by
    rw [results_rv, hr]
    simp only [List.mapM_toArray, List.mapM_cons, List.mapM_nil, Sem.run_bind, Sem.run_map, h1', h2', Result.andThen_ok, Sem.run_pure]
    rfl
  rcases hx with rfl | rfl <;> exact ⟨rfl, _, this, _, A', rfl, h, hw.sub hL⟩
theorem Done.three {fn : Func} {Post : Value → List Res → Prop} {x : Exit} (hx : x = .ret ∨ x = .normal) {r1 r2 r3 : ResultVar} {v1 v2 v3 : Value} {A' : List Res} (hr : fn.results = #[r1, r2, r3]) (h1 : RV P n w0 D L e r1 v1) (h2 : RV P n w0 D L e r2 v2) (h3 : RV P n w0 D L e r3 v3) (hL : A'.Sublist L)
    (h : Post (.tuple #[v1, v2, v3]) A') : JQ (bodyPost P fn (Done w0 D Post)) x n w0 D L e := fun w hw => by
  have h1' := h1 w hw.qw
  have h2' := h2 w hw.qw
  have h3' := h3 w hw.qw
  have : (results fn (act n e).tmps).run P w = .ok (.tuple #[v1, v2, v3]) w := by
    rw [results_rv, hr]
    simp only [List.mapM_toArray, List.mapM_cons, List.mapM_nil, Sem.run_bind, Sem.run_map, h1', h2', h3', Result.andThen_ok, Sem.run_pure]
    rfl
  rcases hx with rfl | rfl <;> exact ⟨rfl, _, this, _, A', rfl, h, hw.sub hL⟩

theorem Done.four {fn : Func} {Post : Value → List Res → Prop} {x : Exit} (hx : x = .ret ∨ x = .normal) {r1 r2 r3 r4 : ResultVar} {v1 v2 v3 v4 : Value} {A' : List Res} (hr : fn.results = #[r1, r2, r3, r4]) (h1 : RV P n w0 D L e r1 v1) (h2 : RV P n w0 D L e r2 v2) (h3 : RV P n w0 D L e r3 v3) (h4 : RV P n w0 D L e r4 v4) (hL : A'.Sublist L)
    (h : Post (.tuple #[v1, v2, v3, v4]) A') : JQ (bodyPost P fn (Done w0 D Post)) x n w0 D L e := fun w hw => by
  have h1' := h1 w hw.qw
  have h2' := h2 w hw.qw
  have h3' := h3 w hw.qw
  have h4' := h4 w hw.qw
  have : (results fn (act n e).tmps).run P w = .ok (.tuple #[v1, v2, v3, v4]) w := by
    rw [results_rv, hr]
    simp only [List.mapM_toArray, List.mapM_cons, List.mapM_nil, Sem.run_bind, Sem.run_map, h1', h2', h3', h4', Result.andThen_ok, Sem.run_pure]
    rfl
  rcases hx with rfl | rfl <;> exact ⟨rfl, _, this, _, A', rfl, h, hw.sub hL⟩

end
end Go.Proofs.YtkmpmjficoohkaaGreat
