/-
Texts of the walk, joined: what each one proves stands at its theorems.
-/
import Derived.Test.YthlfmbbaomdciaaGreatDoorB0SlOps
import Derived.Orders
set_option linter.unusedSimpArgs false
set_option linter.unusedVariables false
set_option linter.unnecessarySimpa false
namespace Go.Proofs.YthlfmbbaomdciaaGreatDoor
open Go Go.RowKit
section
variable {P : Program} {ops : Array Oper} {Q : Exit → Act → World → Prop} {n : Nat} {w0 w : World} {D : List Nat} {L : List Res} {e : Env}
variable {d : Option Tmp} {ty : TypeId} {pos : String} {aft : Array Edge} {gd : Option (Nat × Bool)}

/-- A block of a local variable. -/
abbrev bk (b t : Nat) (cs : List Value) : Res := .blk b (.cells cs.toArray t (0, 0))

theorem JO.ofRun {o : Oper} {Φ : Value → List Res → Prop} (h : ∀ w, St w0 D L w → ∃ v L' w', (execOp (rd n e) o).run P w = .ok (.value v) w' ∧ Φ v L' ∧ St w0 D L' w') : JO P n w0 D L e o Φ := fun w hw K Q hK => by
 obtain ⟨v, L', w', hr, hΦ, hw'⟩ := h w hw
 unfold Oper.wp
 rw [act_eval', hr, Oper.upon_value, act_put]
 exact hK v L' w' hΦ hw'

theorem JO.ofRunU {o : Oper} {Φ : Value → List Res → Prop} (h : ∀ w, St w0 D L w → ∃ L' w', (execOp (rd n e) o).run P w = .ok .skip w' ∧ Φ undef L' ∧ St w0 D L' w') : JO P n w0 D L e o Φ := fun w hw K Q hK => by
 obtain ⟨L', w', hr, hΦ, hw'⟩ := h w hw
 unfold Oper.wp
 rw [act_eval', hr, Oper.upon_skip, act_put]
 exact hK _ L' w' hΦ hw'

theorem JO.box {x : Operand} {t : TypeId} {v : Value} {cs : List Value} (hx : rd n e x = v) (hc : v.cells.toList = cs) :
   JO P n w0 D L e ⟨d, .box t x, ty, pos, aft, gd⟩ (fun u L' => ∃ b, u = .pointer (some ⟨b, 0, none⟩) ∧ L' = bk b t cs :: L) := JO.ofRun fun w hw => by
 subst hc
 refine ⟨_, _, _, ?_, ⟨w.heap.size, rfl, rfl⟩, hw.alloc _⟩
 simp [execOp, Instr.box, newVar, newRow, hx]

theorem JO.alloc {t : TypeId} {z : Value} {cs : List Value} (hz : ∀ w, (zeroValue t).run P w = .ok z w) (hc : z.cells.toList = cs) :
   JO P n w0 D L e ⟨d, .alloc t, ty, pos, aft, gd⟩ (fun u L' => ∃ b, u = .pointer (some ⟨b, 0, none⟩) ∧ L' = bk b t cs :: L) := JO.ofRun fun w hw => by
 subst hc
 refine ⟨_, _, _, ?_, ⟨w.heap.size, rfl, rfl⟩, hw.alloc _⟩
 simp [execOp, Instr.alloc, newVar, newRow, hz]

/-- A load of one cell out of a local block. -/
theorem LO.load1 (i : Nat) {x : Operand} {t ty' b o : Nat} {cs : List Value} {v : Value} {fr : Nat × Nat} (hL : L[i]? = some (.blk b (.cells cs.toArray ty' fr))) (hx : rd n e x = .pointer (some ⟨b, o, none⟩))
   (ht : ∀ w, (isAgg t).run P w = .ok false w) (hc : cs[o]? = some v) : LO P n w0 D L e ⟨d, .load t x, ty, pos, aft, gd⟩ v := fun w hw => by
 have hb : w.heap[b]? = some (.cells cs.toArray ty' fr) := hw.get hL
 have hcell : w.cell? ⟨b, o, none⟩ = some v := by simp [World.cell?, hb, hc]
 simp [execOp, hx, Instr.loadAt, Instr.sureAddr, loadVar, ht, hcell]

theorem add_lit (b o m : Nat) : (⟨b, o, none⟩ : Addr).add m = ⟨b, o + m, none⟩ := by unfold Addr.add; split <;> simp_all

/-- A load of a struct out of a local block. -/
theorem jl (i : Nat) {x : Operand} {t ty' b o k : Nat} {cs vs : List Value} {fr : Nat × Nat} (hL : L[i]? = some (.blk b (.cells cs.toArray ty' fr))) (hx : rd n e x = .pointer (some ⟨b, o, none⟩))
   (ht : ∀ w, (isAgg t).run P w = .ok true w) (hs : ∀ w, (sizeOf t).run P w = .ok k w) (hc : (cs.drop o).take k = vs) (hk : vs.length = k) :
   LO P n w0 D L e ⟨d, .load t x, ty, pos, aft, gd⟩ (.agg vs.toArray) := fun w hw => by
 have hb : w.heap[b]? = some (.cells cs.toArray ty' fr) := hw.get hL
 have hr := run_loadCells_list (P := P) (w := w) ⟨b, o, none⟩ vs fun j v hj => by
   rw [add_lit]
   subst hc
   have hj2 : cs[o + j]? = some v := by
     rw [List.getElem?_take, List.getElem?_drop] at hj
     split at hj
     · exact hj
     · cases hj
   simp [World.cell?, hb, hj2]
 rw [hk] at hr
 simp [execOp, hx, Instr.loadAt, Instr.sureAddr, loadVar, ht, hs, hr]

/-- A store into a local block: of one cell, or of a struct. -/
theorem JO.store (i : Nat) {x y : Operand} {t ty' b o k : Nat} {cs cs' vs : List Value} {v : Value} (hL : L[i]? = some (bk b ty' cs)) (hx : rd n e x = .pointer (some ⟨b, o, none⟩)) (hy : rd n e y = v) (hv : v.cells.toList = vs)
   (hs : ∀ w, (sizeOf t).run P w = .ok k w) (hk : vs.length = k) (h1 : vs.all (·.oneCell') = true) (hfit : o + k ≤ cs.length) (hc : cs.take o ++ vs ++ cs.drop (o + k) = cs') :
   JO P n w0 D L e ⟨d, .store t x y, ty, pos, aft, gd⟩ (fun _ L' => L' = L.set i (bk b ty' cs')) := JO.ofRunU fun w hw => by
 have hb : w.heap[b]? = some (.cells cs.toArray ty' (0, 0)) := hw.get hL
 have hlt : b < w.heap.size := (Array.getElem?_eq_some_iff.1 hb).1
 have hst := run_storeCells_at P b o ty' vs 0 cs.toArray w hb (by simp; omega) (fun u hu => (List.all_eq_true.1 h1) u hu)
 simp only [Nat.add_zero, hk, hc] at hst
 refine ⟨_, w.setRow b cs'.toArray, ?_, rfl, ?_⟩
 · have hcs : v.cells.size = k := by rw [← hk, ← hv, Array.length_toList]
   simp [execOp, hx, hy, Instr.storeAt, Instr.sureAddr, storeVar, hs, hcs, hv, hst]
 · refine hw.turn1 hL rfl rfl rfl (by simp) (fun q _ hq => setRow_other w b q _ (by simpa [Res.ids] using hq)) ?_ (by simp [Res.ids]) (fun q hq => .inl (by simpa [Res.ids] using hq))
   exact setRow_heap w b cs.toArray _ ty' _ hb

/-- What is known of a slice value behind which a row is owned. -/
theorem row_form {v : Value} {t k m : Nat} {cs : List Value} (h : World.ownsR w 0 t k v m cs) : cs.length = m * k ∧ ∃ a c, v = .slice a m c ∧ (a = none → m = 0 ∧ c = 0 ∧ cs = []) ∧ m ≤ c ∧ c ≤ maxLen ∧ a.bind (·.spot) = none ∧ (∀ g, a = some g → g.off = 0) := by
 refine ⟨h.1, ?_⟩
 rcases h.2 with ⟨rfl, rfl⟩ | ⟨g, cap, cur, rfl, _, hg, h1, h2, _⟩
 · refine ⟨none, 0, rfl, fun _ => ⟨rfl, rfl, ?_⟩, Nat.le_refl _, Nat.zero_le _, rfl, fun _ h => by cases h⟩
   have := h.1
   simpa using this
 · exact ⟨some ⟨g, 0, none⟩, cap, rfl, (fun h => by cases h), h1, h2, rfl, fun g h => by cases h; rfl⟩

theorem row_some (i : Nat) {a : Option Addr} {t k m m' c : Nat} {cs : List Value} (hL : L[i]? = some (.row (.slice a m c) t k m' cs)) (h0 : 0 < m') (h : ∃ w, St w0 D L w) : a.isSome = true ∧ a.bind (·.spot) = none ∧ m = m' ∧ m ≤ c := by
 obtain ⟨w, hw⟩ := h
 obtain ⟨_, a', c', hv, h1, h2, h3, h4, _⟩ := row_form (hw.get hL)
 simp only [Value.slice.injEq] at hv
 obtain ⟨rfl, rfl, rfl⟩ := hv
 refine ⟨?_, h4, rfl, h2⟩
 cases a with
 | none => exact absurd (h1 rfl).1 (by omega)
 | some a => rfl

theorem row_cell {a : Option Addr} {t k m m' c o : Nat} {cs : List Value} {u : Value} (h : World.ownsR w 0 t k (.slice a m c) m' cs) (hu : cs[o]? = some u) : ∃ g, a = some ⟨g, 0, none⟩ ∧ w.cell? ⟨g, o, none⟩ = some u := by
 rcases h.2 with ⟨hv, rfl⟩ | ⟨g, cap, cur, hv, _, hg, h1, h2, h3, h4⟩
 · have h0 := h.1
   simp only [Nat.zero_mul, List.length_eq_zero_iff] at h0
   subst h0
   simp at hu
 · simp only [Value.slice.injEq] at hv
   obtain ⟨rfl, _, _⟩ := hv
   refine ⟨g, rfl, ?_⟩
   rw [hg.cell]
   rw [← h4, List.getElem?_take] at hu
   split at hu
   · simpa using hu
   · cases hu

/-- A load of one cell behind a slice whose row is owned. -/
theorem jr (i : Nat) {x : Operand} {t t' k m m' c o : Nat} {a : Option Addr} {cs : List Value} {v : Value} (hL : L[i]? = some (.row (.slice a m c) t' k m' cs)) (hx : rd n e x = elp a o)
   (ht : ∀ w, (isAgg t).run P w = .ok false w) (hc : cs[o]? = some v) : LO P n w0 D L e ⟨d, .load t x, ty, pos, aft, gd⟩ v := fun w hw => by
 obtain ⟨g, rfl, hcell⟩ := row_cell (hw.get hL) hc
 simp [execOp, hx, elp, Instr.loadAt, Instr.sureAddr, loadVar, ht, hcell]

theorem LO.loadRK (i : Nat) {x : Operand} {t t' k k' m m' c o : Nat} {a : Option Addr} {cs vs : List Value} (hL : L[i]? = some (.row (.slice a m c) t' k' m' cs)) (hx : rd n e x = elp a o)
   (ht : ∀ w, (isAgg t).run P w = .ok true w) (hs : ∀ w, (sizeOf t).run P w = .ok k w) (hc : (cs.drop o).take k = vs) (hk : vs.length = k) (h0 : 0 < k) :
   LO P n w0 D L e ⟨d, .load t x, ty, pos, aft, gd⟩ (.agg vs.toArray) := fun w hw => by
 have hat : ∀ j v, vs[j]? = some v → cs[o + j]? = some v := fun j v hj => by
   subst hc
   rw [List.getElem?_take, List.getElem?_drop] at hj
   split at hj
   · exact hj
   · cases hj
 have hex : ∃ v0, vs[0]? = some v0 := ⟨vs[0]'(by omega), List.getElem?_eq_getElem (by omega)⟩
 obtain ⟨v0, hv0⟩ := hex
 obtain ⟨g, rfl, _⟩ := row_cell (hw.get hL) (hat 0 v0 hv0)
 have hr := run_loadCells_list (P := P) (w := w) ⟨g, o, none⟩ vs fun j v hj => by
   rw [add_lit]
   obtain ⟨g', hg', hcell⟩ := row_cell (hw.get hL) (hat j v hj)
   simp only [Option.some.injEq, Addr.mk.injEq, and_true] at hg'
   rw [hg']
   exact hcell
 rw [hk] at hr
 simp [execOp, hx, elp, Instr.loadAt, Instr.sureAddr, loadVar, ht, hs, hr]

/-- A slice that can be read, whoever owns it. -/
def Sees (w : World) (v : Value) (k m : Nat) (cs : List Value) : Prop :=
 cs.length = m * k ∧ ((v = .slice none 0 0 ∧ m = 0) ∨ ∃ b o c, v = .slice (some ⟨b, o, none⟩) m c ∧ m ≤ c ∧ c ≤ maxLen ∧ b < w.heap.size ∧ ∀ j u, cs[j]? = some u → w.cell? ⟨b, o + j, none⟩ = some u)

theorem St.see {i : Nat} {a : Option Addr} {t k m m' c : Nat} {cs : List Value} (hw : St w0 D L w) (hL : L[i]? = some (.row (.slice a m c) t k m' cs)) : Sees w (.slice a m c) k m' cs := by
 have h := hw.get hL
 refine ⟨h.1, ?_⟩
 rcases h.2 with ⟨hv, rfl⟩ | ⟨g, cap, cur, hv, _, hg, h1, h2, h3, h4⟩
 · exact .inl ⟨hv, rfl⟩
 · refine .inr ⟨g, 0, cap, hv, h1, h2, hg.lt, fun j u hj => ?_⟩
   simp only [Value.slice.injEq] at hv
   obtain ⟨rfl, rfl, rfl⟩ := hv
   obtain ⟨g', hg', hcell⟩ := row_cell h hj
   simp only [Option.some.injEq, Addr.mk.injEq, and_true] at hg'
   rw [Nat.zero_add, hg']
   exact hcell

theorem cell_of_keep {k : Nat} {a : Addr} {u : Value} (hw : Qw w0 D L w) (ha : a.block = k) (hD : k ∉ D) (hu : w0.cell? a = some u) : w.cell? a = some u := by
 subst ha
 have hlt := World.block_lt_of_cell? (w := w0) (a := a) hu
 rw [World.cell?_of_block (w := w0) (hw.keep a.block hlt hD)]
 exact hu

/-- A load behind a slice that came in and is not ours. -/
theorem jY {x : Operand} {t k m m' c o : Nat} {a : Option Addr} {cs : List Value} {v : Value} (hs : Sees w0 (.slice a m c) k m' cs) (hD : ∀ b, (Value.slice a m c).ownBlock = some b → b ∉ D) (hx : rd n e x = elp a o)
   (ht : ∀ w, (isAgg t).run P w = .ok false w) (hc : cs[o]? = some v) : LO P n w0 D L e ⟨d, .load t x, ty, pos, aft, gd⟩ v := fun w hw => by
 obtain ⟨hl, h⟩ := hs
 rcases h with ⟨_, rfl⟩ | ⟨b, o', cap, hv, h1, h2, h3, h4⟩
 · simp only [Nat.zero_mul, List.length_eq_zero_iff] at hl
   subst hl
   simp at hc
 · simp only [Value.slice.injEq] at hv
   obtain ⟨rfl, rfl, rfl⟩ := hv
   have hcell : w.cell? ⟨b, o' + o, none⟩ = some v := cell_of_keep hw rfl (hD b (by simp [Value.ownBlock])) (h4 o v hc)
   simp [execOp, hx, elp, Instr.loadAt, Instr.sureAddr, loadVar, ht, hcell]

theorem jj {x : Operand} {t k k' m m' c o : Nat} {a : Option Addr} {cs vs : List Value} (hs' : Sees w0 (.slice a m c) k' m' cs) (hD : ∀ b, (Value.slice a m c).ownBlock = some b → b ∉ D) (hx : rd n e x = elp a o)
   (ht : ∀ w, (isAgg t).run P w = .ok true w) (hs : ∀ w, (sizeOf t).run P w = .ok k w) (hc : (cs.drop o).take k = vs) (hk : vs.length = k) (h0 : 0 < k) :
   LO P n w0 D L e ⟨d, .load t x, ty, pos, aft, gd⟩ (.agg vs.toArray) := fun w hw => by
 have hat : ∀ j v, vs[j]? = some v → cs[o + j]? = some v := fun j v hj => by
   subst hc
   rw [List.getElem?_take, List.getElem?_drop] at hj
   split at hj
   · exact hj
   · cases hj
 obtain ⟨hl, h⟩ := hs'
 rcases h with ⟨_, rfl⟩ | ⟨b, o', cap, hv, h1, h2, h3, h4⟩
 · simp only [Nat.zero_mul, List.length_eq_zero_iff] at hl
   subst hl
   simp at hc
   subst hc
   simp at hk
   omega
 · simp only [Value.slice.injEq] at hv
   obtain ⟨rfl, rfl, rfl⟩ := hv
   have hr := run_loadCells_list (P := P) (w := w) ⟨b, o' + o, none⟩ vs fun j v hj => by
     rw [add_lit]
     exact cell_of_keep hw rfl (hD b (by simp [Value.ownBlock])) (by have := h4 (o + j) v (hat j v hj); rwa [← Nat.add_assoc] at this)
   rw [hk] at hr
   simp [execOp, hx, elp, Instr.loadAt, Instr.sureAddr, loadVar, ht, hs, hr]

theorem sees_some {a : Option Addr} {k m m' c : Nat} {cs : List Value} (h : Sees w0 (.slice a m c) k m' cs) (h0 : 0 < m') : a.isSome = true ∧ a.bind (·.spot) = none ∧ m = m' ∧ m ≤ c := by
 rcases h.2 with ⟨_, rfl⟩ | ⟨b, o', cap, hv, h1, h2, h3, h4⟩
 · omega
 · simp only [Value.slice.injEq] at hv
   obtain ⟨rfl, rfl, rfl⟩ := hv
   exact ⟨rfl, rfl, rfl, h1⟩

/-- A call. -/
def pick : List Nat → List Res → Option (List Res × List Res)
 | [], L => some ([], L)
 | i :: is, L => match L[i]? with
   | some r => match pick is (L.eraseIdx i) with
     | some (A, F) => some (r :: A, F)
     | none => none
   | none => none

theorem pick_perm : ∀ (is : List Nat) {L A F : List Res}, pick is L = some (A, F) → L.Perm (A ++ F)
 | [], L, A, F, h => by
   simp only [pick, Option.some.injEq, Prod.mk.injEq] at h
   obtain ⟨rfl, rfl⟩ := h
   exact List.Perm.refl _
 | i :: is, L, A, F, h => by
   unfold pick at h
   split at h
   · rename_i r hr
     split at h
     · rename_i A' F' hp
       simp only [Option.some.injEq, Prod.mk.injEq] at h
       obtain ⟨rfl, rfl⟩ := h
       exact (perm_erase i r hr).trans (List.Perm.cons r (pick_perm is hp))
     · cases h
   · cases h

theorem jO (is : List Nat) {f : FuncId} {args : Array Operand} {ats : Array TypeId} {vs : List Value} {A F : List Res} {Pre : World → Prop} {Post : Value → List Res → Prop}
   (hc : ∀ args w, (callFunc f args).run P w = .ok (.enter f args) w) (hp : pick is L = some (A, F)) (hf : Ct P f vs A Pre Post) (hv : args.toList.map (rd n e) = vs) (hpre : ∀ w, St w0 D L w → Pre w) :
   JO P n w0 D L e ⟨d, .call ⟨.value (.func f), args, ats⟩, ty, pos, aft, gd⟩ (fun v L' => ∃ A', Post v A' ∧ L' = A' ++ F) := fun w hw K Q hK => by
 have hperm := pick_perm is hp
 have hA : Has A w := ((hw.perm hperm.symm).sub (List.sublist_append_left _ _)).toHas
 have hargs : args.map (rd n e) = vs.toArray := by
   subst hv
   apply Array.ext'
   simp
 have hrun : (execOp (rd n e) ⟨d, .call ⟨.value (.func f), args, ats⟩, ty, pos, aft, gd⟩).run P w = .ok (.enter f vs.toArray) w := by
   simp [execOp, resolve, Deferred.ofValue, rd, invoke, hargs, hc]
 unfold Oper.wp
 rw [act_eval', hrun, Oper.upon_enter]
 refine (hf w hA (hpre w hw)).mono fun e' w' he => ?_
 obtain ⟨v, A', rfl, hpost, hst⟩ := he
 show K _ _
 rw [act_put]
 refine hK v (A' ++ F) w' ⟨A', hpost, rfl⟩ (hw.turn hperm hst.os hst.tape hst.output hst.size hst.keep hst.holds hst.nodup hst.fresh)

/-- A call of a function value. -/
theorem JO.callV (is : List Nat) {f : FuncId} {x : Operand} {args : Array Operand} {ats : Array TypeId} {cap vs : List Value} {A F : List Res} {Pre : World → Prop} {Post : Value → List Res → Prop}
   (hc : ∀ args w, (callFunc f args).run P w = .ok (.enter f args) w) (hp : pick is L = some (A, F)) (hf : Ct P f vs A Pre Post) (hx : rd n e x = .func (.func f) #[] cap.toArray) (hv : args.toList.map (rd n e) ++ cap = vs) (hpre : ∀ w, St w0 D L w → Pre w) :
   JO P n w0 D L e ⟨d, .call ⟨.value x, args, ats⟩, ty, pos, aft, gd⟩ (fun v L' => ∃ A', Post v A' ∧ L' = A' ++ F) := fun w hw K Q hK => by
 have hperm := pick_perm is hp
 have hA : Has A w := ((hw.perm hperm.symm).sub (List.sublist_append_left _ _)).toHas
 have hargs : args.map (rd n e) ++ cap.toArray = vs.toArray := by
   subst hv
   apply Array.ext'
   simp
 have hrun : (execOp (rd n e) ⟨d, .call ⟨.value x, args, ats⟩, ty, pos, aft, gd⟩).run P w = .ok (.enter f vs.toArray) w := by
   simp [execOp, resolve, Deferred.ofValue, hx, invoke, hargs, hc]
 unfold Oper.wp
 rw [act_eval', hrun, Oper.upon_enter]
 refine (hf w hA (hpre w hw)).mono fun e' w' he => ?_
 obtain ⟨v, A', rfl, hpost, hst⟩ := he
 show K _ _
 rw [act_put]
 refine hK v (A' ++ F) w' ⟨A', hpost, rfl⟩ (hw.turn hperm hst.os hst.tape hst.output hst.size hst.keep hst.holds hst.nodup hst.fresh)

theorem Done.tmp {fn : Func} {Post : Value → List Res → Prop} {x : Exit} (hx : x = .ret ∨ x = .normal) {t : Tmp} {v : Value} {A' : List Res} (hr : fn.results = #[.tmp t]) (hv : rd n e (.tmp t) = v) (hL : A'.Sublist L) (h : Post v A') :
   JQ (bodyPost P fn (Done w0 D Post)) x n w0 D L e := fun w hw => by
 have : (results fn (act n e).tmps).run P w = .ok v w := by
   rw [results_tmp hr]
   have := act_eval n e (.tmp t)
   simp only [Act.eval] at this
   rw [this, hv]
 rcases hx with rfl | rfl <;> exact ⟨rfl, v, this, v, A', rfl, h, hw.sub hL⟩

theorem Done.none {fn : Func} {Post : Value → List Res → Prop} {x : Exit} (hx : x = .ret ∨ x = .normal) {A' : List Res} (hr : fn.results = #[]) (hL : A'.Sublist L) (h : Post (.tuple #[]) A') :
   JQ (bodyPost P fn (Done w0 D Post)) x n w0 D L e := fun w hw => by
 have : (results fn (act n e).tmps).run P w = .ok (.tuple #[]) w := results_none hr _ _ _
 rcases hx with rfl | rfl <;> exact ⟨rfl, _, this, _, A', rfl, h, hw.sub hL⟩

def rvSem (tmps : Array Value) : ResultVar → Sem Value
 | .tmp t => pure (tmps.getD t undef)
 | .cell a t => do loadVar t (← asAddr (tmps.getD a undef))
theorem results_rv (fn : Func) (tmps : Array Value) : results fn tmps = (do
   let vs ← fn.results.mapM (rvSem tmps)
   pure (if h : vs.size = 1 then vs[0] else .tuple vs)) := by
 unfold results
 have : rvSem tmps = (fun r => match r with | .tmp t => pure (tmps.getD t undef) | .cell a t => (do loadVar t (← asAddr (tmps.getD a undef)))) := by
   funext r
   cases r <;> rfl
 rw [this]
 rfl
/-- How a result variable is read at the end. -/
def RV (P : Program) (n : Nat) (w0 : World) (D : List Nat) (L : List Res) (e : Env) (r : ResultVar) (v : Value) : Prop :=
 ∀ w, Qw w0 D L w → (rvSem (act n e).tmps r).run P w = .ok v w
theorem jC {t : Tmp} {v : Value} (hv : rd n e (.tmp t) = v) : RV P n w0 D L e (.tmp t) v := fun w _ => by
 have := act_eval n e (.tmp t)
 simp only [Act.eval] at this
 simp only [rvSem, this, hv]
 rfl
theorem js {a : Tmp} {t : TypeId} {v : Value} (h : LO P n w0 D L e ⟨none, .load t (.tmp a), 0, "", #[], none⟩ v) (hp : ∃ ad, rd n e (.tmp a) = .pointer (some ad)) : RV P n w0 D L e (.cell a t) v := fun w hw => by
 obtain ⟨ad, hp⟩ := hp
 have h1 := h w hw
 simp only [execOp, hp, Instr.loadAt, Instr.sureAddr, Sem.run_bind, Sem.run_pure, Result.andThen_ok] at h1
 have h2 := act_eval n e (.tmp a)
 simp only [Act.eval] at h2
 simp only [rvSem, h2, hp, asAddr, Sem.run_bind, Sem.run_pure, Result.andThen_ok]
 generalize (loadVar t ad).run P w = r at *
 cases r with
 | ok u w' =>
   simp only [Result.andThen_ok, Result.ok.injEq, Next.value.injEq] at h1
   obtain ⟨rfl, rfl⟩ := h1
   rfl
 | halt x w' => simp [Result.andThen] at h1

theorem jE {fn : Func} {Post : Value → List Res → Prop} {x : Exit} (hx : x = .ret ∨ x = .normal) {r : ResultVar} {v : Value} {A' : List Res} (hr : fn.results = #[r]) (hv : RV P n w0 D L e r v) (hL : A'.Sublist L) (h : Post v A') :
   JQ (bodyPost P fn (Done w0 D Post)) x n w0 D L e := fun w hw => by
 have hv' := hv w hw.qw
 have : (results fn (act n e).tmps).run P w = .ok v w := by
   rw [results_rv, hr]
   simp only [List.mapM_toArray, List.mapM_cons, List.mapM_nil, Sem.run_bind, Sem.run_map, hv', Result.andThen_ok, Sem.run_pure]
   rfl
 rcases hx with rfl | rfl <;> exact ⟨rfl, v, this, v, A', rfl, h, hw.sub hL⟩
theorem ji {fn : Func} {Post : Value → List Res → Prop} {x : Exit} (hx : x = .ret ∨ x = .normal) {r1 r2 : ResultVar} {v1 v2 : Value} {A' : List Res} (hr : fn.results = #[r1, r2]) (h1 : RV P n w0 D L e r1 v1) (h2 : RV P n w0 D L e r2 v2) (hL : A'.Sublist L)
   (h : Post (.tuple #[v1, v2]) A') : JQ (bodyPost P fn (Done w0 D Post)) x n w0 D L e := fun w hw => by
 have h1' := h1 w hw.qw
 have h2' := h2 w hw.qw
 have : (results fn (act n e).tmps).run P w = .ok (.tuple #[v1, v2]) w := by
   rw [results_rv, hr]
   simp only [List.mapM_toArray, List.mapM_cons, List.mapM_nil, Sem.run_bind, Sem.run_map, h1', h2', Result.andThen_ok, Sem.run_pure]
   rfl
 rcases hx with rfl | rfl <;> exact ⟨rfl, _, this, _, A', rfl, h, hw.sub hL⟩
theorem Done.three {fn : Func} {Post : Value → List Res → Prop} {x : Exit} (hx : x = .ret ∨ x = .normal) {r1 r2 r3 : ResultVar} {v1 v2 v3 : Value} {A' : List Res} (hr : fn.results = #[r1, r2, r3]) (h1 : RV P n w0 D L e r1 v1) (h2 : RV P n w0 D L e r2 v2) (h3 : RV P n w0 D L e r3 v3) (hL : A'.Sublist L)
   (h : Post (.tuple #[v1, v2, v3]) A') : JQ (bodyPost P fn (Done w0 D Post)) x n w0 D L e := fun w hw => by
 have h1' := h1 w hw.qw
 have h2' := h2 w hw.qw
 have h3' := h3 w hw.qw
 have : (results fn (act n e).tmps).run P w = .ok (.tuple #[v1, v2, v3]) w := by
   rw [results_rv, hr]
   simp only [List.mapM_toArray, List.mapM_cons, List.mapM_nil, Sem.run_bind, Sem.run_map, h1', h2', h3', Result.andThen_ok, Sem.run_pure]
   rfl
 rcases hx with rfl | rfl <;> exact ⟨rfl, _, this, _, A', rfl, h, hw.sub hL⟩

end
section
variable {P : Program} {ops : Array Oper} {Q : Exit → Act → World → Prop} {n : Nat} {w0 w : World} {D : List Nat} {L : List Res} {e : Env}
variable {d : Option Tmp} {ty : TypeId} {pos : String} {aft : Array Edge} {gd : Option (Nat × Bool)}

/-- A new row. -/
theorem St.newRow (hw : St w0 D L w) (t k m c : Nat) (cur : Array Value) (hm : m ≤ c) (hc : c ≤ maxLen) (hs : cur.size = c * k) :
   St w0 D (.row (.slice (some ⟨w.heap.size, 0, none⟩) m c) t k m (cur.toList.take (m * k)) :: L) (w.alloc (.cells cur t)) := by
 refine hw.turn (A := []) (A' := [.row (.slice (some ⟨w.heap.size, 0, none⟩) m c) t k m (cur.toList.take (m * k))]) (F := L) (List.Perm.refl _) rfl rfl rfl (by simp) (fun q hq _ => Below.heap_alloc _ _ _ hq) ?_ ?_ ?_
 · intro r hr
   simp only [List.mem_singleton] at hr
   subst hr
   refine ⟨?_, .inr ⟨w.heap.size, c, cur, rfl, Nat.zero_le _, ?_, hm, hc, Nat.le_of_eq hs.symm, rfl⟩⟩
   · rw [List.length_take, Array.length_toList, hs]
     exact Nat.min_eq_left (Nat.mul_le_mul_right k hm)
   · exact CellsAt.new w _ _
 · simp [idsOf, Res.ids, Value.ownBlock]
 · intro i hi
   simp only [idsOf, Res.ids, Value.ownBlock, List.flatMap_cons, List.flatMap_nil, List.append_nil, Option.mem_toList, Option.some.injEq] at hi
   exact .inr (by omega)

/-- The cells of a literal. -/
def litCells (k m : Nat) (z : Value) (parts : List (Nat × Value)) : Option (Array Value) :=
 Instr.fill (fun i => some (i * k, k)) ((Array.range (m * k)).map (z.cells[· % z.cells.size]!)) parts

theorem fill_size {place : Nat → Option (Nat × Nat)} : ∀ {parts : List (Nat × Value)} {cells cells' : Array Value}, Instr.fill place cells parts = some cells' → cells'.size = cells.size
 | [], _, _, h => by simp only [Instr.fill, Option.some.injEq] at h; subst h; rfl
 | (i, v) :: rest, cells, cells', h => by
   have keep : ∀ (l : List (Value × Nat)) (off : Nat) (cs : Array Value), (l.foldl (fun cs (c, j) => cs.setIfInBounds (off + j) c) cs).size = cs.size := by
     intro l
     induction l with
     | nil => intros; rfl
     | cons x l ih => intro off cs; simp only [List.foldl_cons]; rw [ih]; simp
   unfold Instr.fill at h
   split at h
   · cases h
   · split at h
     · cases h
     · have := fill_size h
       rw [this, ← Array.foldl_toList]
       exact keep _ _ _

/-- A slice literal. -/
theorem jR {t el k m : Nat} {z : Value} {parts : Array (Nat × Operand)} {ps : List (Nat × Value)} {cur : Array Value} (ht : P.underlying t = some (.slice el)) (hs : ∀ w, (sizeOf el).run P w = .ok k w) (hz : ∀ w, (zeroValue el).run P w = .ok z w)
   (hp : parts.toList.map (fun x => (x.1, rd n e x.2)) = ps) (hf : litCells k m z ps = some cur) (hm : m * k ≤ 16777216) (hm2 : m ≤ 16777216) :
   JO P n w0 D L e ⟨d, .buildSlice t m parts, ty, pos, aft, gd⟩ (fun u L' => ∃ a, u = .slice a m m ∧ L' = .row (.slice a m m) el k m cur.toList :: L) := JO.ofRun fun w hw => by
 have hsz : cur.size = m * k := by rw [fill_size hf]; simp
 have hst := hw.newRow el k m m cur (Nat.le_refl _) (by unfold maxLen; omega) hsz
 rw [List.take_of_length_le (by simp [hsz])] at hst
 refine ⟨_, _, _, ?_, ⟨some ⟨w.heap.size, 0, none⟩, rfl, rfl⟩, hst⟩
 have hnot : ¬ (16777216 < m * k) := by omega
 unfold litCells at hf
 by_cases h0 : m * k = 0
 · have harr : ∀ f : Nat → Value, (Array.range (m * k)).map f = #[] := fun f => by rw [h0]; simp
   rw [harr] at hf
   simp only [execOp, Instr.buildSlice, Sem.run_bind, run_underlying ht, hs, hnot, h0, if_true, if_false, Sem.run_pure, Result.andThen_ok, Array.toList_map, hp, newRow, Array.range_zero', Array.map_empty, hf, run_newObj, Sem.run_ite]
   rfl
 · simp only [execOp, Instr.buildSlice, Sem.run_bind, run_underlying ht, hs, hz, hnot, h0, if_false, Sem.run_pure, Result.andThen_ok, Array.toList_map, hp, newRow, hf, run_newObj, Sem.run_ite, Sem.run_map]
   rfl

theorem getElem?_flatten_replicate (m k j : Nat) (l : List Value) (hl : l.length = k) : (List.replicate m l).flatten[j]? = if j < m * k then l[j % k]? else none := by
 induction m generalizing j with
 | zero => simp
 | succ m ih =>
   rw [List.replicate_succ, List.flatten_cons, List.getElem?_append]
   by_cases hj : j < k
   · rw [if_pos (by omega), if_pos (by rw [Nat.succ_mul]; omega), Nat.mod_eq_of_lt hj]
   · rw [if_neg (by omega), ih, hl]
     by_cases h2 : j - k < m * k
     · rw [if_pos h2, if_pos (by rw [Nat.succ_mul]; omega), ← Nat.mod_eq_sub_mod (by omega)]
     · rw [if_neg h2, if_neg (by rw [Nat.succ_mul]; omega)]

/-- make([]T, m): m elements, each zero. -/
theorem JO.makeSlice {t el k m : Nat} {x : Operand} {z : Value} {zc : List Value} {ti : TypeInfo} (ht : P.underlying t = some (.slice el)) (hti : ∀ w, (typeInfo el).run P w = .ok ti w) (hk : ti.size = k) (hz : ti.zero = some z) (hzl : z.cells.toList = zc) (hzk : zc.length = k)
   (hx : rd n e x = .int .i64 m) (hm : m ≤ maxLen) (hb : ti.bytes * m ≤ 281474976710656) :
   JO P n w0 D L e ⟨d, .makeSlice t x x, ty, pos, aft, gd⟩ (fun u L' => ∃ a, u = .slice a m m ∧ L' = .row (.slice a m m) el k m ((List.replicate m zc).flatten) :: L) := JO.ofRun fun w hw => by
 have hzc : z.cells.size = k := by rw [← hzk, ← hzl, Array.length_toList]
 subst hzl
 have hm' : (m : Int) ≤ 9223372036854775807 := by unfold maxLen at hm; omega
 have wl : IntKind.i64.wrap (m : Int) = m := wr ⟨rfl, by omega, hm'⟩
 have n3 : ¬ ((m : Int) < 0) := by omega
 have n2 : ¬ (281474976710656 < (ti.bytes : Int) * (m : Int)) := by
   have : ((ti.bytes * m : Nat) : Int) ≤ 281474976710656 := by omega
   rw [Int.natCast_mul] at this
   omega
 have hsz : ((Array.range (m * k)).map (z.cells[· % z.cells.size]!)).size = m * k := by simp
 have hst := hw.newRow el k m m ((Array.range (m * k)).map (z.cells[· % z.cells.size]!)) (Nat.le_refl _) hm hsz
 rw [List.take_of_length_le (by simp)] at hst
 have hcs : ((Array.range (m * k)).map (z.cells[· % z.cells.size]!)).toList = (List.replicate m z.cells.toList).flatten := by
   apply List.ext_getElem?
   intro j
   rw [getElem?_flatten_replicate m k j z.cells.toList (by simpa using hzc)]
   by_cases hj : j < m * k
   · have hk0 : 0 < k := by
       rcases Nat.eq_zero_or_pos k with h | h
       · subst h; simp at hj
       · exact h
     have hjk : j % k < z.cells.size := by rw [hzc]; exact Nat.mod_lt _ hk0
     rw [if_pos hj]
     have hjk' : j % k < k := by rw [hzc] at hjk; exact hjk
     simp [hj, hzc, Array.getElem!_eq_getD, Array.getD, hjk']
   · rw [if_neg hj]
     simp [hj]
 rw [hcs] at hst
 refine ⟨_, _, _, ?_, ⟨some ⟨w.heap.size, 0, none⟩, rfl, rfl⟩, hst⟩
 by_cases h0 : m * k = 0
 · have harr : ∀ f : Nat → Value, (Array.range (m * k)).map f = #[] := fun f => by rw [h0]; simp
   have harr0 : ∀ f : Nat → Value, (Array.range 0).map f = #[] := fun f => by simp
   simp [execOp, Instr.makeSlice, run_underlying ht, hx, asInt, asIntOf, sizeOf, hti, hk, wl, n2, n3, h0, newRow, harr0]
 · simp [execOp, Instr.makeSlice, run_underlying ht, hx, asInt, asIntOf, sizeOf, zeroValue, hti, hk, hz, wl, n2, n3, h0, newRow]

/-- Where the elements of an append come from. -/
def Src (P : Program) (w : World) (k m : Nat) (x : Value) (news : List Value) : Prop :=
 (∀ w', w'.heap = w.heap → (Builtin.firstCells k m x).run P w' = .ok news.toArray w') ∧ (Builtin.lenOf x).run P w = .ok m w ∧ news.length = m * k ∧ ∀ u ∈ news, u.oneCell' = true

theorem Src.sees {k m m' c : Nat} {a : Option Addr} {cs : List Value} (h : Sees w (.slice a m c) k m' cs) (h1 : ∀ u ∈ cs, u.oneCell' = true) : Src P w k m' (.slice a m c) cs := by
 obtain ⟨hl, h⟩ := h
 rcases h with ⟨hv, rfl⟩ | ⟨b, o, cap, hv, h2, h3, h4, h5⟩
 · simp only [Value.slice.injEq] at hv
   obtain ⟨rfl, rfl, rfl⟩ := hv
   simp only [Nat.zero_mul, List.length_eq_zero_iff] at hl
   subst hl
   exact ⟨fun w' _ => by simp [Builtin.firstCells], by simp [Builtin.lenOf], by simp, by simp⟩
 · simp only [Value.slice.injEq] at hv
   obtain ⟨rfl, rfl, rfl⟩ := hv
   refine ⟨fun w' hw' => run_firstCells_some w' k m ⟨b, o, none⟩ m c cs hl fun j v hj => ?_, by simp [Builtin.lenOf], hl, h1⟩
   rw [add_lit]
   have := h5 j v hj
   simpa [World.cell?, hw'] using this

/-- append, whatever the room: the row behind the slice is owned. -/
theorem JO.append (i : Nat) {t u el k m c q by' : Nat} {x y : Operand} {vy : Value} {a : Option Addr} {cs news : List Value} {ti : TypeInfo} {z : Value} {el2 : TypeId}
   (hL : L[i]? = some (.row (.slice a m c) el k m cs)) (ht : P.underlying t = some (.slice el)) (hu : P.underlying u = some (.slice el2))
   (hti : ∀ w, (typeInfo el).run P w = .ok ti w) (hk : ti.size = k) (hby : ti.bytes = by') (hz : ti.zero = some z) (hzc : z.cells.size = k)
   (hx : rd n e x = .slice a m c) (hy : rd n e y = vy) (hsrc : ∀ w, St w0 D L w → Src P w k q vy news) (hb : (m + q) * by' ≤ 140737488355328) (hmax : m + q ≤ 9223372036854775807) :
   JO P n w0 D L e ⟨d, .call ⟨.builtin .append, #[x, y], #[t, u]⟩, ty, pos, aft, gd⟩ (fun v L' => ∃ a' c', v = .slice a' (m + q) c' ∧ L' = L.set i (.row (.slice a' (m + q) c') el k (m + q) (cs ++ news))) := JO.ofRun fun w hw => by
 have hrow := hw.get hL
 obtain ⟨hnf, hlen, hnl, hone⟩ := hsrc w hw
 have hnews := hnf w rfl
 have hnewsD : (Builtin.firstCells k q vy).run P w.drew = .ok news.toArray w.drew := hnf w.drew rfl
 have h63 : ¬ (9223372036854775807 < ((m : Int) + (q : Int))) := by omega
 have hsl : cs.length = m * k := hrow.1
 by_cases hroom : m + q ≤ c
 · rcases hrow.2 with ⟨hv, h0⟩ | ⟨g, cap, cur, hv, hg0, hg, h1, h2, h3, h4⟩
   · simp only [Value.slice.injEq] at hv
     obtain ⟨rfl, rfl, rfl⟩ := hv
     have hq : q = 0 := by omega
     subst hq
     have hn0 : news = [] := by simpa using hnl
     subst hn0
     refine ⟨_, _, w, ?_, ⟨none, 0, rfl, rfl⟩, ?_⟩
     · simp [execOp, resolve, invoke, builtin, hx, hy, Builtin.append_, run_underlying ht, run_underlying hu, sizeOf, hti, hk, hlen, hnews]
     · have : L.set i (.row (.slice none (0 + 0) 0) el k (0 + 0) (cs ++ [])) = L := by
         rw [List.append_nil]
         exact List.ext_getElem? fun j => by
           rw [List.getElem?_set]
           split
           · rename_i hij; subst hij; split <;> simp_all
           · rfl
       rw [this]; exact hw
   · simp only [Value.slice.injEq] at hv
     obtain ⟨rfl, _, rfl⟩ := hv
     have hfit : m * k + 0 + news.length ≤ cur.size := by
       refine Nat.le_trans ?_ h3
       rw [hnl, Nat.add_zero, ← Nat.add_mul]; exact Nat.mul_le_mul_right _ hroom
     have hst := run_storeCells_R P g (m * k) el news 0 cur w hg hfit hone
     simp only [Nat.add_zero] at hst
     refine ⟨_, _, w.setRow g (cur.toList.take (m * k) ++ news ++ cur.toList.drop (m * k + news.length)).toArray, ?_, ⟨some ⟨g, 0, none⟩, c, rfl, rfl⟩, ?_⟩
     · simp [execOp, resolve, invoke, builtin, hx, hy, Builtin.append_, run_underlying ht, run_underlying hu, sizeOf, hti, hk, hlen, hnews, hroom, add_lit, hst]
     · refine hw.turn1 hL rfl rfl rfl (by simp) (fun q' _ hq' => setRow_other w g q' _ (by simpa [Res.ids, Value.ownBlock] using hq')) ?_ (by simp [Res.ids, Value.ownBlock]) (fun q' hq' => .inl (by simpa [Res.ids, Value.ownBlock] using hq'))
       refine ⟨by rw [List.length_append, hsl, hnl, Nat.add_mul], .inr ⟨g, c, _, rfl, hg0, hg.setRow (by simp only [List.size_toArray, List.length_append, List.length_take, List.length_drop, Array.length_toList]; omega), hroom, h2, ?_, ?_⟩⟩
       · simp only [List.size_toArray, List.length_append, List.length_take, List.length_drop, Array.length_toList]
         omega
       · rw [h4, List.append_assoc, ← List.append_assoc cs]
         rw [List.take_append_of_le_length (by rw [List.length_append, hsl, hnl, Nat.add_mul]; exact Nat.le_refl _)]
         exact List.take_of_length_le (by rw [List.length_append, hsl, hnl, Nat.add_mul]; exact Nat.le_refl _)
 · have hnr : ¬ (m + q ≤ c) := hroom
   have h48 : ¬ (281474976710656 < Builtin.nextslicecap (m + q) c * by') := by
     have := growslice_fits (need := m + q) (old := c) (bytes := by') (by omega) hb
     omega
   have hold : (Builtin.firstCells k m (.slice a m c)).run P w.drew = .ok cs.toArray w.drew := by
     rcases hrow.2 with ⟨hv, h0⟩ | ⟨g, cap, cur, hv, hg0, hg, h1, h2, h3, h4⟩
     · simp only [Value.slice.injEq] at hv
       obtain ⟨rfl, rfl, rfl⟩ := hv
       simp only [Nat.zero_mul, List.length_eq_zero_iff] at hsl
       subst hsl
       simp [Builtin.firstCells]
     · simp only [Value.slice.injEq] at hv
       obtain ⟨rfl, _, rfl⟩ := hv
       refine run_firstCells_some w.drew k m ⟨g, 0, none⟩ m c cs hsl fun j v hj => ?_
       obtain ⟨g', hg', hc'⟩ := row_cell hrow hj
       simp only [Option.some.injEq, Addr.mk.injEq, and_true] at hg'
       rw [add_lit, Nat.zero_add, hg', World.cell?_drew]
       exact hc'
   have hgc := grownCap_ge w (m + q) c el
   have hgm := grownCap_le_maxLen w (m + q) c el (by unfold maxLen; omega)
   have hrest : (Builtin.zeroCells z.cells (grownCap w (m + q) c el - (m + q))).size = (grownCap w (m + q) c el - (m + q)) * k := by rw [size_zeroCells, hzc]
   have hst := (hw.drew).turn (A := [.row (.slice a m c) el k m cs]) (F := L.eraseIdx i)
     (A' := [.row (.slice (some ⟨w.heap.size, 0, none⟩) (m + q) (grownCap w (m + q) c el)) el k (m + q) (cs ++ news)])
     (w' := w.drew.alloc (.cells (cs.toArray ++ news.toArray ++ Builtin.zeroCells z.cells (grownCap w (m + q) c el - (m + q))) el))
     (perm_set i _ (.row (.slice a m c) el k m cs) hL).1 rfl rfl rfl (by simp) (fun q' hq' _ => Below.heap_alloc _ _ _ hq') (by
       intro r hr
       simp only [List.mem_singleton] at hr
       subst hr
       refine ⟨by rw [List.length_append, hsl, hnl, Nat.add_mul], .inr ⟨w.heap.size, _, _, rfl, Nat.zero_le _, CellsAt.new w.drew _ _, hgc, hgm, ?_, ?_⟩⟩
       · refine Nat.le_of_eq (Eq.symm ?_)
         simp only [Array.size_append, List.size_toArray, hsl, hnl, hrest]
         rw [← Nat.add_mul, ← Nat.add_mul]
         congr 1
         omega
       · simp only [Array.toList_append]
         rw [List.take_append_of_le_length (by rw [List.length_append, hsl, hnl, Nat.add_mul]; exact Nat.le_refl _)]
         exact List.take_of_length_le (by rw [List.length_append, hsl, hnl, Nat.add_mul]; exact Nat.le_refl _)) (by simp [idsOf, Res.ids, Value.ownBlock]) (by
       intro j hj
       simp only [idsOf, Res.ids, Value.ownBlock, List.flatMap_cons, List.flatMap_nil, List.append_nil, Option.mem_toList, Option.some.injEq] at hj
       exact .inr (by rw [← hj]; exact Nat.le_refl _))
   refine ⟨_, _, _, ?_, ⟨some ⟨w.heap.size, 0, none⟩, grownCap w (m + q) c el, rfl, rfl⟩, hst.perm (perm_set i _ _ hL).2⟩
   have h63' : ¬ (9223372036854775807 < ((m : Int) + (q : Int))) := h63
   simp [execOp, resolve, invoke, builtin, hx, hy, Builtin.append_, run_underlying ht, run_underlying hu, sizeOf, hti, hk, hby, hz, hlen, hnr, h63, h48, Question.forced, hold, hnewsD, newRow, zeroValue, grownCap]
   congr 2
   apply Array.ext'
   simp [List.append_assoc]

end
/-- No way out by a panic. -/
def NP (Q : Exit → Act → World → Prop) : Prop := ∀ c a w, ¬ Q (.panic c) a w
theorem NP.th {K : Act → World → Prop} {Q : Exit → Act → World → Prop} (h : NP Q) : NP (Exit.then K Q) := fun c a w hq => h c a w hq
theorem NP.bl {id : Nat} {Q : Exit → Act → World → Prop} (h : NP Q) : NP (Exit.inBlock id Q) := fun c a w hq => h c a w hq
theorem NP.body {P : Program} {fn : Func} {w0 : World} {D : List Nat} {Post : Value → List Res → Prop} : NP (bodyPost P fn (Done w0 D Post)) := fun c a w hq => by
 obtain ⟨_, v, A', he, _⟩ := hq
 cases he

section
variable {P : Program} {ops : Array Oper} {Q : Exit → Act → World → Prop} {C : World → Prop} {z : Nat}

/-- In every world of the class the operation yields v; or its guard says no. -/
def YC (P : Program) (ops : Array Oper) (C : World → Prop) (o : Oper) (v : Value) (a : Act) : Prop :=
 (Region.wanted o (yielded ops a.tmps) = true ∧ ∀ w, C w → (execOp a.eval o).run P w = .ok (.value v) w) ∨ (Region.wanted o (yielded ops a.tmps) = false ∧ v = undef)

theorem YC.same {o : Oper} {v : Value} {a a' : Act} (hy : YC P ops C o v a) (he : execOp a'.eval o = execOp a.eval o) (hw : Region.wanted o (yielded ops a'.tmps) = Region.wanted o (yielded ops a.tmps)) : YC P ops C o v a' := by
 unfold YC at *
 rw [he, hw]
 exact hy

theorem YC.run {i : Nat} {o : Oper} {v : Value} {a : Act} {w : World} {K : Act → World → Prop} (hi : ops[i]? = some o) (hw : C w) (hy : YC P ops C o v a) (h : K (a.put o.dst v) w) : wpOp P ops Q i K a w := by
 unfold wpOp
 simp only [hi]
 rcases hy with ⟨h1, h2⟩ | ⟨h1, rfl⟩
 · rw [if_pos h1]
   refine .inl ?_
   unfold Oper.wp
   rw [h2 w hw, Oper.upon_value]
   exact h
 · rw [if_neg (by simp [h1])]
   exact h

/-- Another operation, carried out ahead of one that is to be taken first. -/
theorem YC.past {j : Nat} {oi oj : Oper} {v : Value} {a : Act} {w : World} {K : Act → World → Prop} (hj : ops[j]? = some oj) (hap : oi.apart ops oj = true)
   (hsi : ∀ cs b, oi.op ≠ .select cs b) (hsj : ∀ cs b, oj.op ≠ .select cs b) (hQ : NP Q) (hy : YC P ops C oi v a) (h : wpOp P ops Q j K (a.put oi.dst v) w) :
   wpOp P ops Q j (fun a' w' => YC P ops C oi v a' ∧ K (a'.put oi.dst v) w') a w := by
 obtain ⟨h1, h2, h3⟩ := Oper.apart_spec hap
 have keep : ∀ u, YC P ops C oi v (a.put oj.dst u) := fun u => hy.same (execOp_put oi hsi a oj.dst u h3) (wanted_put oi a oj.dst u h3)
 have comm : ∀ u, (a.put oj.dst u).put oi.dst v = (a.put oi.dst v).put oj.dst u := fun u => (Act.put_comm a v u h2).symm
 unfold wpOp at *
 simp only [hj] at *
 rw [wanted_put oj a oi.dst v h1] at h
 by_cases hw : Region.wanted oj (yielded ops a.tmps) = true
 · simp only [hw, if_true] at h ⊢
   rcases h with h | ⟨hasks, hlets⟩
   · refine .inl ?_
     unfold Oper.wp at *
     rw [execOp_put oj hsj a oi.dst v h1] at h
     generalize (execOp a.eval oj).run P w = r at *
     cases r with
     | ok x w' =>
       cases x <;> simp only [Oper.upon] at h ⊢
       case value u => exact ⟨keep u, comm u ▸ h⟩
       case skip => exact ⟨keep _, comm _ ▸ h⟩
       case defer dd =>
         have hd : YC P ops C oi v ({ a with defers := dd :: a.defers } : Act) := hy.same rfl rfl
         refine ⟨hd.same (execOp_put oi hsi _ oj.dst _ h3) (wanted_put oi _ oj.dst _ h3), ?_⟩
         rw [← Act.put_comm _ v undef h2, ← Act.put_defers]
         exact h
       case enter f args =>
         refine Calls.mono h fun e w'' he => ?_
         cases e with
         | returned u => exact ⟨keep u, comm u ▸ he⟩
         | panicked c => exact absurd he (hQ _ _ _)
         | outgrown => exact he
       case row row args => exact Rows.mono h fun u w'' he => ⟨keep u, comm u ▸ he⟩
     | halt x w' =>
       cases x <;> simp only [Oper.upon] at h ⊢
       case panic u => exact absurd h (hQ _ _ _)
   · refine .inr ⟨?_, hlets⟩
     unfold Oper.asks at *
     rw [execOp_put oj hsj a oi.dst v h1] at hasks
     exact hasks
 · simp only [hw] at h ⊢
   exact ⟨keep _, comm _ ▸ h⟩

/-- Whatever order is picked from here on; each operation but the late ones keeps the class. -/
def anyC (P : Program) (ops : Array Oper) (Q : Exit → Act → World → Prop) (C : World → Prop) (z : Nat) : Nat → Array Bool → Act → World → Prop
 | 0, listed, a, w => Region.ready .any ops listed = [] ∧ Q .normal a w
 | fuel + 1, listed, a, w => (Region.ready .any ops listed = [] → Q .normal a w) ∧
   ∀ i ∈ Region.ready .any ops listed, wpOp P ops Q i (fun a' w' => (C w → z ≤ i ∨ C w') ∧ anyC P ops Q C z fuel (listed.setIfInBounds i true) a' w') a w

theorem anyC.any : ∀ (fuel : Nat) (listed : Array Bool) (a : Act) (w : World), anyC P ops Q C z fuel listed a w → wpAny P .any ops Q fuel listed a w
 | 0, _, _, _, h => h
 | fuel + 1, _, _, _, h => ⟨h.1, fun i hi => wpOp_mono (fun a' w' h' => anyC.any fuel _ a' w' h'.2) (h.2 i hi)⟩

/-- Each late operation waits for this one. -/
def lateB (ops : Array Oper) (z i : Nat) : Bool := (List.range ops.size).all fun j => Nat.blt j z || (j == i || match ops[j]? with
 | some o => o.after.any fun e => Region.binds .any e && e.on == i
 | none => true)
theorem lateB_spec {ops : Array Oper} {z i j : Nat} {o : Oper} (h : lateB ops z i = true) (hj : ops[j]? = some o) (hz : z ≤ j) (hi : j ≠ i) : ∃ e ∈ o.after, Region.binds .any e = true ∧ e.on = i := by
 unfold lateB at h
 rw [List.all_eq_true] at h
 have h1 := h j (List.mem_range.2 (Array.getElem?_eq_some_iff.1 hj).1)
 simp only [Bool.or_eq_true, Nat.blt_eq, beq_iff_eq, hj] at h1
 have h2 := (h1.resolve_left (by omega)).resolve_left hi
 obtain ⟨e, he, hb⟩ := Array.any_eq_true'.1 h2
 simp only [Bool.and_eq_true, beq_iff_eq] at hb
 exact ⟨e, he, hb.1, hb.2⟩

/-- An operation that reads what the class knows is taken first. -/
theorem anyC.first {i : Nat} {oi : Oper} {v : Value} (hi : ops[i]? = some oi) (hs : Region.noSelect ops = true) (hQ : NP Q) (hz : lateB ops z i = true) :
   ∀ (fuel : Nat) (listed : Array Bool) (a : Act) (w : World),
     (∀ j oj, ops[j]? = some oj → j ≠ i → listed.getD j true = false → (∀ e ∈ oj.after, Region.binds .any e = true → e.on ≠ i) → oi.apart ops oj = true) →
     i ∈ Region.ready .any ops listed → C w → YC P ops C oi v a →
     anyC P ops Q C z fuel (listed.setIfInBounds i true) (a.put oi.dst v) w → anyC P ops Q C z (fuel + 1) listed a w := by
 intro fuel
 induction fuel with
 | zero =>
   intro listed a w _ hr hw hy H
   refine ⟨fun h => (by rw [h] at hr; cases hr), fun j hj => ?_⟩
   by_cases hji : j = i
   · subst hji; exact YC.run hi hw hy ⟨fun _ => .inr hw, H⟩
   · have := ready_mono hj hji
     rw [H.1] at this
     cases this
 | succ fuel ih =>
   intro listed a w hfree hr hw hy H
   refine ⟨fun h => (by rw [h] at hr; cases hr), fun j hj => ?_⟩
   by_cases hji : j = i
   · subst hji; exact YC.run hi hw hy ⟨fun _ => .inr hw, H⟩
   · have h1 := H.2 j (ready_mono hj hji)
     obtain ⟨hjun, oj, hoj, hall⟩ := mem_ready.1 hj
     have hiun := (mem_ready.1 hr).1
     have hnot : ∀ e ∈ oj.after, Region.binds .any e = true → e.on ≠ i := fun e he hb heq => by
       have h2 := hall e he hb
       rw [heq] at h2
       rcases Nat.lt_or_ge i listed.size with h' | h'
       · simp [h'] at hiun h2; rw [hiun] at h2; cases h2
       · simp [Array.getElem?_eq_none h'] at h2
     have hjz : ¬ z ≤ j := fun hjz => by
       obtain ⟨e, he, hb, ho⟩ := lateB_spec hz hoj hjz hji
       exact hnot e he hb ho
     have h2 := YC.past hoj (hfree j oj hoj hji hjun hnot) (fun cs b => Region.noSelect_spec hs i oi cs b hi) (fun cs b => Region.noSelect_spec hs j oj cs b hoj) hQ hy h1
     have hfree' : ∀ k ok, ops[k]? = some ok → k ≠ i → (listed.setIfInBounds j true).getD k true = false →
         (∀ e ∈ ok.after, Region.binds .any e = true → e.on ≠ i) → oi.apart ops ok = true := fun k ok hk hki hun hno => by
       refine hfree k ok hk hki ?_ hno
       by_cases hjk : j = k
       · subst hjk; exact hjun
       · rw [getD_set_ne true hjk] at hun; exact hun
     refine wpOp_mono (fun a' w' h3 => ?_) h2
     have hC : C w' := (h3.2.1 hw).resolve_left hjz
     refine ⟨fun _ => .inr hC, ih (listed.setIfInBounds j true) a' w' hfree' (ready_mono hr (Ne.symm hji)) hC h3.1 ?_⟩
     rw [Array.setIfInBounds_comm _ _ hji]
     exact h3.2.2

/-- An operation that reads nothing of the world is taken first. -/
theorem anyC.firstP {i : Nat} {oi : Oper} {v : Value} (hi : ops[i]? = some oi) (hs : Region.noSelect ops = true) (hQ : NP Q) :
   ∀ (fuel : Nat) (listed : Array Bool) (a : Act) (w : World),
     (∀ j oj, ops[j]? = some oj → j ≠ i → listed.getD j true = false → (∀ e ∈ oj.after, Region.binds .any e = true → e.on ≠ i) → oi.apart ops oj = true) →
     i ∈ Region.ready .any ops listed → YC P ops (fun _ => True) oi v a →
     anyC P ops Q C z fuel (listed.setIfInBounds i true) (a.put oi.dst v) w → anyC P ops Q C z (fuel + 1) listed a w := by
 intro fuel
 induction fuel with
 | zero =>
   intro listed a w _ hr hy H
   refine ⟨fun h => (by rw [h] at hr; cases hr), fun j hj => ?_⟩
   by_cases hji : j = i
   · subst hji; exact YC.run (C := fun _ => True) hi trivial hy ⟨fun h => .inr h, H⟩
   · have := ready_mono hj hji
     rw [H.1] at this
     cases this
 | succ fuel ih =>
   intro listed a w hfree hr hy H
   refine ⟨fun h => (by rw [h] at hr; cases hr), fun j hj => ?_⟩
   by_cases hji : j = i
   · subst hji; exact YC.run (C := fun _ => True) hi trivial hy ⟨fun h => .inr h, H⟩
   · have h1 := H.2 j (ready_mono hj hji)
     obtain ⟨hjun, oj, hoj, hall⟩ := mem_ready.1 hj
     have hiun := (mem_ready.1 hr).1
     have hnot : ∀ e ∈ oj.after, Region.binds .any e = true → e.on ≠ i := fun e he hb heq => by
       have h2 := hall e he hb
       rw [heq] at h2
       rcases Nat.lt_or_ge i listed.size with h' | h'
       · simp [h'] at hiun h2; rw [hiun] at h2; cases h2
       · simp [Array.getElem?_eq_none h'] at h2
     have h2 := YC.past hoj (hfree j oj hoj hji hjun hnot) (fun cs b => Region.noSelect_spec hs i oi cs b hi) (fun cs b => Region.noSelect_spec hs j oj cs b hoj) hQ hy h1
     have hfree' : ∀ k ok, ops[k]? = some ok → k ≠ i → (listed.setIfInBounds j true).getD k true = false →
         (∀ e ∈ ok.after, Region.binds .any e = true → e.on ≠ i) → oi.apart ops ok = true := fun k ok hk hki hun hno => by
       refine hfree k ok hk hki ?_ hno
       by_cases hjk : j = k
       · subst hjk; exact hjun
       · rw [getD_set_ne true hjk] at hun; exact hun
     refine wpOp_mono (fun a' w' h3 => ?_) h2
     refine ⟨h3.2.1, ih (listed.setIfInBounds j true) a' w' hfree' (ready_mono hr (Ne.symm hji)) h3.1 ?_⟩
     rw [Array.setIfInBounds_comm _ _ hji]
     exact h3.2.2
end

section
variable {P : Program} {ops : Array Oper} {Q : Exit → Act → World → Prop} {n : Nat} {w0 : World} {D : List Nat} {L M : List Res} {e : Env} {z fuel : Nat} {listed : Array Bool}

/-- From here on, in whatever order. M: what no operation but the last turns. -/
def JA (P : Program) (ops : Array Oper) (Q : Exit → Act → World → Prop) (n : Nat) (w0 : World) (D : List Nat) (M : List Res) (z : Nat) (fuel : Nat) (listed : Array Bool) (L : List Res) (e : Env) : Prop :=
 ∀ w, St w0 D L w → Qw w0 D M w → anyC P ops Q (Qw w0 D M) z fuel listed (act n e) w

theorem JC.regionA (M : List Res) (z : Nat) {id : Nat} {l : List Oper} (hm : P.follows .mixedOrders = true) (hM : ∀ r ∈ M, r ∈ L) (h : JA P l.toArray Q n w0 D M z l.length (Array.replicate l.length false) L e) : JC P Q n w0 D L (.region id l.toArray true) e := fun w hw =>
 wp_region_any hm (by
   have := anyC.any _ _ _ _ (h w.drew hw.drew (hw.drew.qw.sub hM))
   simpa using this)

theorem JA.facts (h : (∃ w, St w0 D L w) → JA P ops Q n w0 D M z fuel listed L e) : JA P ops Q n w0 D M z fuel listed L e := fun w hw hq => h ⟨w, hw⟩ w hw hq
theorem JA.take (i : Nat) {oi : Oper} {v : Value} (hi : ops[i]? = some oi) (hs : Region.noSelect ops = true) (hQ : NP Q) (hz : lateB ops z i = true) (hf : Region.free .any ops listed i = true) (hr : (Region.ready .any ops listed).contains i = true)
   (hg : oi.guard = none) (hy : LO P n w0 D M e oi v) (h : JA P ops Q n w0 D M z fuel (listed.setIfInBounds i true) L (updO e oi.dst v)) : JA P ops Q n w0 D M z (fuel + 1) listed L e := fun w hw hq =>
 anyC.first hi hs hQ hz fuel listed (act n e) w (Region.free_spec hi hf) (by simpa using hr) hq (.inl ⟨by simp [Region.wanted, hg], fun w' hw' => by rw [act_eval']; exact hy w' hw'⟩) (by rw [act_put]; exact h w hw hq)

theorem JA.takeP (i : Nat) {oi : Oper} {v : Value} (hi : ops[i]? = some oi) (hs : Region.noSelect ops = true) (hQ : NP Q) (hf : Region.free .any ops listed i = true) (hr : (Region.ready .any ops listed).contains i = true)
   (hg : oi.guard = none) (hy : PO P n e oi v) (h : JA P ops Q n w0 D M z fuel (listed.setIfInBounds i true) L (updO e oi.dst v)) : JA P ops Q n w0 D M z (fuel + 1) listed L e := fun w hw hq =>
 anyC.firstP hi hs hQ fuel listed (act n e) w (Region.free_spec hi hf) (by simpa using hr) (.inl ⟨by simp [Region.wanted, hg], fun w' _ => by rw [act_eval']; exact hy w'⟩) (by rw [act_put]; exact h w hw hq)

/-- What is to be shown of an operation that comes up. -/
def JX (P : Program) (ops : Array Oper) (Q : Exit → Act → World → Prop) (n : Nat) (w0 : World) (D : List Nat) (M : List Res) (z fuel : Nat) (listed : Array Bool) (L : List Res) (e : Env) (i : Nat) : Prop :=
 ∀ w, St w0 D L w → wpOp P ops Q i (fun a' w' => (Qw w0 D M w → z ≤ i ∨ Qw w0 D M w') ∧ anyC P ops Q (Qw w0 D M) z fuel (listed.setIfInBounds i true) a' w') (act n e) w

theorem anyC.late {C C' : World → Prop} : ∀ (fuel : Nat) (listed : Array Bool) (a : Act) (w : World), (∀ i, listed.getD i true = false → z ≤ i) → anyC P ops Q C' z fuel listed a w → anyC P ops Q C z fuel listed a w
 | 0, _, _, _, _, h => h
 | fuel + 1, listed, _, _, hl, h => ⟨h.1, fun i hi => wpOp_mono (fun a' w' h' => ⟨fun _ => .inl (hl i (mem_ready.1 hi).1), anyC.late fuel _ a' w' (fun k hk => hl k (by
     by_cases hik : i = k
     · subst hik; exact (mem_ready.1 hi).1
     · rw [getD_set_ne true hik] at hk; exact hk)) h'.2⟩) (h.2 i hi)⟩
theorem ja {i : Nat} {o : Oper} {Φ : Value → List Res → Prop} (hi : ops[i]? = some o) (hg : o.guard = none) (ho : JO P n w0 D L e o Φ)
   (h : ∀ v L', Φ v L' → (∀ r ∈ M, r ∈ L') ∧ JA P ops Q n w0 D M z fuel (listed.setIfInBounds i true) L' (updO e o.dst v)) : JX P ops Q n w0 D M z fuel listed L e i := fun w hw => by
 unfold wpOp
 simp only [hi]
 rw [if_pos (by simp [Region.wanted, hg])]
 refine .inl (ho w hw _ Q fun v L' w' hΦ hw' => ?_)
 obtain ⟨h1, h2⟩ := h v L' hΦ
 have hq := hw'.qw.sub h1
 exact ⟨fun _ => .inr hq, h2 w' hw' hq⟩

/-- The last operation of all: it may turn what it will. -/
theorem JX.last {i : Nat} {o : Oper} {Φ : Value → List Res → Prop} (hi : ops[i]? = some o) (hg : o.guard = none) (hiz : z ≤ i) (hr : Region.ready .any ops (listed.setIfInBounds i true) = []) (ho : JO P n w0 D L e o Φ)
   (h : ∀ v L', Φ v L' → JQ Q .normal n w0 D L' (updO e o.dst v)) : JX P ops Q n w0 D M z fuel listed L e i := fun w hw => by
 unfold wpOp
 simp only [hi]
 rw [if_pos (by simp [Region.wanted, hg])]
 refine .inl (ho w hw _ Q fun v L' w' hΦ hw' => ⟨fun _ => .inl hiz, ?_⟩)
 have := h v L' hΦ w' hw'
 cases fuel with
 | zero => exact ⟨hr, this⟩
 | succ f => exact ⟨fun _ => this, by rw [hr]; simp⟩

/-- An operation behind which only such wait as each wait for all before them: it may turn what it will. -/
theorem JX.late {i : Nat} {o : Oper} {Φ : Value → List Res → Prop} (hi : ops[i]? = some o) (hg : o.guard = none) (hiz : z ≤ i) (hl : ((List.range listed.size).all fun k => Nat.ble z k || listed.getD k true) = true) (ho : JO P n w0 D L e o Φ)
   (h : ∀ v L', Φ v L' → JA P ops Q n w0 D [] z fuel (listed.setIfInBounds i true) L' (updO e o.dst v)) : JX P ops Q n w0 D M z fuel listed L e i := fun w hw => by
 unfold wpOp
 simp only [hi]
 rw [if_pos (by simp [Region.wanted, hg])]
 refine .inl (ho w hw _ Q fun v L' w' hΦ hw' => ⟨fun _ => .inl hiz, ?_⟩)
 have h1 := h v L' hΦ w' hw' (hw'.qw.sub (by simp))
 have hlate : ∀ k, listed.getD k true = false → z ≤ k := fun k hk => by
   rw [List.all_eq_true] at hl
   have hks : k < listed.size := by
     rcases Nat.lt_or_ge k listed.size with h' | h'
     · exact h'
     · simp [Array.getElem?_eq_none h'] at hk
   have := hl k (List.mem_range.2 hks)
   rw [hk, Bool.or_false] at this
   exact Nat.le_of_ble_eq_true this
 refine anyC.late fuel _ _ _ (fun k hk => hlate k ?_) h1
 by_cases hik : i = k
 · subst hik
   by_cases his : i < listed.size
   · simp [his] at hk
   · simp [Array.getElem?_eq_none (Nat.le_of_not_lt his), his] at hk
 · rw [getD_set_ne true hik] at hk; exact hk

theorem JA.one {i : Nat} (hr : Region.ready .any ops listed = [i]) (h : JX P ops Q n w0 D M z fuel listed L e i) : JA P ops Q n w0 D M z (fuel + 1) listed L e := fun w hw _ =>
 ⟨(fun h0 => by rw [hr] at h0; cases h0), fun j hj => by rw [hr, List.mem_singleton] at hj; subst hj; exact h w hw⟩
theorem jZ {i j : Nat} (hr : Region.ready .any ops listed = [i, j]) (h : JX P ops Q n w0 D M z fuel listed L e i) (h' : JX P ops Q n w0 D M z fuel listed L e j) : JA P ops Q n w0 D M z (fuel + 1) listed L e := fun w hw _ =>
 ⟨(fun h0 => by rw [hr] at h0; cases h0), fun q hq => by
   rw [hr] at hq
   simp only [List.mem_cons, List.not_mem_nil, or_false] at hq
   rcases hq with rfl | rfl
   · exact h w hw
   · exact h' w hw⟩
theorem kD {i j k : Nat} (hr : Region.ready .any ops listed = [i, j, k]) (h : JX P ops Q n w0 D M z fuel listed L e i) (h' : JX P ops Q n w0 D M z fuel listed L e j) (h'' : JX P ops Q n w0 D M z fuel listed L e k) : JA P ops Q n w0 D M z (fuel + 1) listed L e := fun w hw _ =>
 ⟨(fun h0 => by rw [hr] at h0; cases h0), fun q hq => by
   rw [hr] at hq
   simp only [List.mem_cons, List.not_mem_nil, or_false] at hq
   rcases hq with rfl | rfl | rfl
   · exact h w hw
   · exact h' w hw
   · exact h'' w hw⟩
theorem JA.done (hr : Region.ready .any ops listed = []) (h : JQ Q .normal n w0 D L e) : JA P ops Q n w0 D M z fuel listed L e := fun w hw _ => by
 cases fuel with
 | zero => exact ⟨hr, h w hw⟩
 | succ f => exact ⟨fun _ => h w hw, by rw [hr]; simp⟩
end
end Go.Proofs.YthlfmbbaomdciaaGreatDoor
