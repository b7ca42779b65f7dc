/-
  A statement whose order Go leaves open, in the small logic: operations that only read are taken first; of the others each order is gone through. No program in sight.
-/
import Derived.Test.YtkmpmjficoohkaaGreatSlMem
import Derived.Orders
set_option linter.unusedSimpArgs false
set_option linter.unusedVariables false
set_option linter.unnecessarySimpa false
namespace Go.Proofs.YtkmpmjficoohkaaGreat
open Go Go.RowKit

/-- No way out by a panic. -/
def NP (Q : Exit → Act → World → Prop) : Prop := ∀ c a w, ¬ Q (.panic c) a w
theorem NP.th {K : Act → World → Prop} {Q : Exit → Act → World → Prop} (h : NP Q) : NP (Exit.then K Q) := fun c a w hq => h c a w hq
theorem NP.bl {id : Nat} {Q : Exit → Act → World → Prop} (h : NP Q) : NP (Exit.inBlock id Q) := fun c a w hq => h c a w hq
theorem NP.body {P : Program} {fn : Func} {w0 : World} {D : List Nat} {Post : Value → List Res → Prop} : NP (bodyPost P fn (Done w0 D Post)) := fun c a w hq => by
  obtain ⟨_, v, A', he, _⟩ := hq
  cases he

section
variable {P : Program} {ops : Array Oper} {Q : Exit → Act → World → Prop} {C : World → Prop} {z : Nat}

/-- In every world of the class the operation yields v; or its guard says no. -/
def YC (P : Program) (ops : Array Oper) (C : World → Prop) (o : Oper) (v : Value) (a : Act) : Prop :=
  (Region.wanted o (yielded ops a.tmps) = true ∧ ∀ w, C w → (execOp a.eval o).run P w = .ok (.value v) w) ∨ (Region.wanted o (yielded ops a.tmps) = false ∧ v = undef)

theorem YC.same {o : Oper} {v : Value} {a a' : Act} (hy : YC P ops C o v a) (he : execOp a'.eval o = execOp a.eval o) (hw : Region.wanted o (yielded ops a'.tmps) = Region.wanted o (yielded ops a.tmps)) : YC P ops C o v a' := by
  unfold YC at *
  rw [he, hw]
  exact hy

theorem YC.run {i : Nat} {o : Oper} {v : Value} {a : Act} {w : World} {K : Act → World → Prop} (hi : ops[i]? = some o) (hw : C w) (hy : YC P ops C o v a) (h : K (a.put o.dst v) w) : wpOp P ops Q i K a w := by
  unfold wpOp
  simp only [hi]
  rcases hy with ⟨h1, h2⟩ | ⟨h1, rfl⟩
  · rw [if_pos h1]
    refine .inl ?_
    unfold Oper.wp
    rw [h2 w hw, Oper.upon_value]
    exact h
  · rw [if_neg (by simp [h1])]
    exact h

/-- Another operation, carried out ahead of one that is to be taken first. -/
theorem YC.past {j : Nat} {oi oj : Oper} {v : Value} {a : Act} {w : World} {K : Act → World → Prop} (hj : ops[j]? = some oj) (hap : oi.apart ops oj = true)
    (hsi : ∀ cs b, oi.op ≠ .select cs b) (hsj : ∀ cs b, oj.op ≠ .select cs b) (hQ : NP Q) (hy : YC P ops C oi v a) (h : wpOp P ops Q j K (a.put oi.dst v) w) :
    wpOp P ops Q j (fun a' w' => YC P ops C oi v a' ∧ K (a'.put oi.dst v) w') a w := by
  obtain ⟨h1, h2, h3⟩ := Oper.apart_spec hap
  have keep : ∀ u, YC P ops C oi v (a.put oj.dst u) := fun u => hy.same (execOp_put oi hsi a oj.dst u h3) (wanted_put oi a oj.dst u h3)
  have comm : ∀ u, (a.put oj.dst u).put oi.dst v = (a.put oi.dst v).put oj.dst u := fun u => (Act.put_comm a v u h2).symm
  unfold wpOp at *
  simp only [hj] at *
  rw [wanted_put oj a oi.dst v h1] at h
  by_cases hw : Region.wanted oj (yielded ops a.tmps) = true
  · simp only [hw, if_true] at h ⊢
    rcases h with h | ⟨hasks, hlets⟩
    · refine .inl ?_
      unfold Oper.wp at *
      rw [execOp_put oj hsj a oi.dst v h1] at h
      generalize (execOp a.eval oj).run P w = r at *
      cases r with
      | ok x w' =>
        cases x <;> simp only [Oper.upon] at h ⊢
        case value u => exact ⟨keep u, comm u ▸ h⟩
        case skip => exact ⟨keep _, comm _ ▸ h⟩
        case defer dd =>
          have hd : YC P ops C oi v ({ a with defers := dd :: a.defers } : Act) := hy.same rfl rfl
          refine ⟨hd.same (execOp_put oi hsi _ oj.dst _ h3) (wanted_put oi _ oj.dst _ h3), ?_⟩
          rw [← Act.put_comm _ v undef h2, ← Act.put_defers]
          exact h
        case enter f args =>
          refine Calls.mono h fun e w'' he => ?_
          cases e with
          | returned u => exact ⟨keep u, comm u ▸ he⟩
          | panicked c => exact absurd he (hQ _ _ _)
          | outgrown => exact he
        case row row args => exact Rows.mono h fun u w'' he => ⟨keep u, comm u ▸ he⟩
      | halt x w' =>
        cases x <;> simp only [Oper.upon] at h ⊢
        case panic u => exact absurd h (hQ _ _ _)
    · refine .inr ⟨?_, hlets⟩
      unfold Oper.asks at *
      rw [execOp_put oj hsj a oi.dst v h1] at hasks
      exact hasks
  · simp only [hw] at h ⊢
    exact ⟨keep _, comm _ ▸ h⟩

/-- Whatever order is picked from here on; each operation but the late ones keeps the class. -/
def anyC (P : Program) (ops : Array Oper) (Q : Exit → Act → World → Prop) (C : World → Prop) (z : Nat) : Nat → Array Bool → Act → World → Prop
  | 0, listed, a, w => Region.ready .any ops listed = [] ∧ Q .normal a w
  | fuel + 1, listed, a, w => (Region.ready .any ops listed = [] → Q .normal a w) ∧
    ∀ i ∈ Region.ready .any ops listed, wpOp P ops Q i (fun a' w' => (C w → z ≤ i ∨ C w') ∧ anyC P ops Q C z fuel (listed.setIfInBounds i true) a' w') a w

theorem anyC.any : ∀ (fuel : Nat) (listed : Array Bool) (a : Act) (w : World), anyC P ops Q C z fuel listed a w → wpAny P .any ops Q fuel listed a w
  | 0, _, _, _, h => h
  | fuel + 1, _, _, _, h => ⟨h.1, fun i hi => wpOp_mono (fun a' w' h' => anyC.any fuel _ a' w' h'.2) (h.2 i hi)⟩

/-- Each late operation waits for this one. -/
def lateB (ops : Array Oper) (z i : Nat) : Bool := (List.range ops.size).all fun j => Nat.blt j z || (j == i || match ops[j]? with
  | some o => o.after.any fun e => Region.binds .any e && e.on == i
  | none => true)
theorem lateB_spec {ops : Array Oper} {z i j : Nat} {o : Oper} (h : lateB ops z i = true) (hj : ops[j]? = some o) (hz : z ≤ j) (hi : j ≠ i) : ∃ e ∈ o.after, Region.binds .any e = true ∧ e.on = i := by
  unfold lateB at h
  rw [List.all_eq_true] at h
  have h1 := h j (List.mem_range.2 (Array.getElem?_eq_some_iff.1 hj).1)
  simp only [Bool.or_eq_true, Nat.blt_eq, beq_iff_eq, hj] at h1
  have h2 := (h1.resolve_left (by omega)).resolve_left hi
  obtain ⟨e, he, hb⟩ := Array.any_eq_true'.1 h2
  simp only [Bool.and_eq_true, beq_iff_eq] at hb
  exact ⟨e, he, hb.1, hb.2⟩

/-- An operation that reads what the class knows is taken first. -/
theorem anyC.first {i : Nat} {oi : Oper} {v : Value} (hi : ops[i]? = some oi) (hs : Region.noSelect ops = true) (hQ : NP Q) (hz : lateB ops z i = true) :
    ∀ (fuel : Nat) (listed : Array Bool) (a : Act) (w : World),
      (∀ j oj, ops[j]? = some oj → j ≠ i → listed.getD j true = false → (∀ e ∈ oj.after, Region.binds .any e = true → e.on ≠ i) → oi.apart ops oj = true) →
      i ∈ Region.ready .any ops listed → C w → YC P ops C oi v a →
      anyC P ops Q C z fuel (listed.setIfInBounds i true) (a.put oi.dst v) w → anyC P ops Q C z (fuel + 1) listed a w := by
  intro fuel
  induction fuel with
  | zero =>
    intro listed a w _ hr hw hy H
    refine ⟨fun h => (by rw [h] at hr; cases hr), fun j hj => ?_⟩
    by_cases hji : j = i
    · subst hji; exact YC.run hi hw hy ⟨fun _ => .inr hw, H⟩
    · have := ready_mono hj hji
      rw [H.1] at this
      cases this
  | succ fuel ih =>
    intro listed a w hfree hr hw hy H
    refine ⟨fun h => (by rw [h] at hr; cases hr), fun j hj => ?_⟩
    by_cases hji : j = i
    · subst hji; exact YC.run hi hw hy ⟨fun _ => .inr hw, H⟩
    · have h1 := H.2 j (ready_mono hj hji)
      obtain ⟨hjun, oj, hoj, hall⟩ := mem_ready.1 hj
      have hiun := (mem_ready.1 hr).1
      have hnot : ∀ e ∈ oj.after, Region.binds .any e = true → e.on ≠ i := fun e he hb heq => by
        have h2 := hall e he hb
        rw [heq] at h2
        rcases Nat.lt_or_ge i listed.size with h' | h'
        · simp [h'] at hiun h2; rw [hiun] at h2; cases h2
        · simp [Array.getElem?_eq_none h'] at h2
      have hjz : ¬ z ≤ j := fun hjz => by
        obtain ⟨e, he, hb, ho⟩ := lateB_spec hz hoj hjz hji
        exact hnot e he hb ho
      have h2 := YC.past hoj (hfree j oj hoj hji hjun hnot) (fun cs b => Region.noSelect_spec hs i oi cs b hi) (fun cs b => Region.noSelect_spec hs j oj cs b hoj) hQ hy h1
      have hfree' : ∀ k ok, ops[k]? = some ok → k ≠ i → (listed.setIfInBounds j true).getD k true = false →
          (∀ e ∈ ok.after, Region.binds .any e = true → e.on ≠ i) → oi.apart ops ok = true := fun k ok hk hki hun hno => by
        refine hfree k ok hk hki ?_ hno
        by_cases hjk : j = k
        · subst hjk; exact hjun
        · rw [getD_set_ne true hjk] at hun; exact hun
      refine wpOp_mono (fun a' w' h3 => ?_) h2
      have hC : C w' := (h3.2.1 hw).resolve_left hjz
      refine ⟨fun _ => .inr hC, ih (listed.setIfInBounds j true) a' w' hfree' (ready_mono hr (Ne.symm hji)) hC h3.1 ?_⟩
      rw [Array.setIfInBounds_comm _ _ hji]
      exact h3.2.2

/-- An operation that reads nothing of the world is taken first. -/
theorem anyC.firstP {i : Nat} {oi : Oper} {v : Value} (hi : ops[i]? = some oi) (hs : Region.noSelect ops = true) (hQ : NP Q) :
    ∀ (fuel : Nat) (listed : Array Bool) (a : Act) (w : World),
      (∀ j oj, ops[j]? = some oj → j ≠ i → listed.getD j true = false → (∀ e ∈ oj.after, Region.binds .any e = true → e.on ≠ i) → oi.apart ops oj = true) →
      i ∈ Region.ready .any ops listed → YC P ops (fun _ => True) oi v a →
      anyC P ops Q C z fuel (listed.setIfInBounds i true) (a.put oi.dst v) w → anyC P ops Q C z (fuel + 1) listed a w := by
  intro fuel
  induction fuel with
  | zero =>
    intro listed a w _ hr hy H
    refine ⟨fun h => (by rw [h] at hr; cases hr), fun j hj => ?_⟩
    by_cases hji : j = i
    · subst hji; exact YC.run (C := fun _ => True) hi trivial hy ⟨fun h => .inr h, H⟩
    · have := ready_mono hj hji
      rw [H.1] at this
      cases this
  | succ fuel ih =>
    intro listed a w hfree hr hy H
    refine ⟨fun h => (by rw [h] at hr; cases hr), fun j hj => ?_⟩
    by_cases hji : j = i
    · subst hji; exact YC.run (C := fun _ => True) hi trivial hy ⟨fun h => .inr h, H⟩
    · have h1 := H.2 j (ready_mono hj hji)
      obtain ⟨hjun, oj, hoj, hall⟩ := mem_ready.1 hj
      have hiun := (mem_ready.1 hr).1
      have hnot : ∀ e ∈ oj.after, Region.binds .any e = true → e.on ≠ i := fun e he hb heq => by
        have h2 := hall e he hb
        rw [heq] at h2
        rcases Nat.lt_or_ge i listed.size with h' | h'
        · simp [h'] at hiun h2; rw [hiun] at h2; cases h2
        · simp [Array.getElem?_eq_none h'] at h2
      have h2 := YC.past hoj (hfree j oj hoj hji hjun hnot) (fun cs b => Region.noSelect_spec hs i oi cs b hi) (fun cs b => Region.noSelect_spec hs j oj cs b hoj) hQ hy h1
      have hfree' : ∀ k ok, ops[k]? = some ok → k ≠ i → (listed.setIfInBounds j true).getD k true = false →
          (∀ e ∈ ok.after, Region.binds .any e = true → e.on ≠ i) → oi.apart ops ok = true := fun k ok hk hki hun hno => by
        refine hfree k ok hk hki ?_ hno
        by_cases hjk : j = k
        · subst hjk; exact hjun
        · rw [getD_set_ne true hjk] at hun; exact hun
      refine wpOp_mono (fun a' w' h3 => ?_) h2
      refine ⟨h3.2.1, ih (listed.setIfInBounds j true) a' w' hfree' (ready_mono hr (Ne.symm hji)) h3.1 ?_⟩
      rw [Array.setIfInBounds_comm _ _ hji]
      exact h3.2.2
end

section
variable {P : Program} {ops : Array Oper} {Q : Exit → Act → World → Prop} {n : Nat} {w0 : World} {D : List Nat} {L M : List Res} {e : Env} {z fuel : Nat} {listed : Array Bool}

/-- From here on, in whatever order. M: what no operation but the last turns. -/
def JA (P : Program) (ops : Array Oper) (Q : Exit → Act → World → Prop) (n : Nat) (w0 : World) (D : List Nat) (M : List Res) (z : Nat) (fuel : Nat) (listed : Array Bool) (L : List Res) (e : Env) : Prop :=
  ∀ w, St w0 D L w → Qw w0 D M w → anyC P ops Q (Qw w0 D M) z fuel listed (act n e) w

theorem JC.regionA (M : List Res) (z : Nat) {id : Nat} {l : List Oper} (hm : P.follows .mixedOrders = true) (hM : ∀ r ∈ M, r ∈ L) (h : JA P l.toArray Q n w0 D M z l.length (Array.replicate l.length false) L e) : JC P Q n w0 D L (.region id l.toArray true) e := fun w hw =>
  wp_region_any hm (by
    have := anyC.any _ _ _ _ (h w.drew hw.drew (hw.drew.qw.sub hM))
    simpa using this)

theorem JA.facts (h : (∃ w, St w0 D L w) → JA P ops Q n w0 D M z fuel listed L e) : JA P ops Q n w0 D M z fuel listed L e := fun w hw hq => h ⟨w, hw⟩ w hw hq
theorem JA.take (i : Nat) {oi : Oper} {v : Value} (hi : ops[i]? = some oi) (hs : Region.noSelect ops = true) (hQ : NP Q) (hz : lateB ops z i = true) (hf : Region.free .any ops listed i = true) (hr : (Region.ready .any ops listed).contains i = true)
    (hg : oi.guard = none) (hy : LO P n w0 D M e oi v) (h : JA P ops Q n w0 D M z fuel (listed.setIfInBounds i true) L (updO e oi.dst v)) : JA P ops Q n w0 D M z (fuel + 1) listed L e := fun w hw hq =>
  anyC.first hi hs hQ hz fuel listed (act n e) w (Region.free_spec hi hf) (by simpa using hr) hq (.inl ⟨by simp [Region.wanted, hg], fun w' hw' => by rw [act_eval']; exact hy w' hw'⟩) (by rw [act_put]; exact h w hw hq)

theorem JA.takeP (i : Nat) {oi : Oper} {v : Value} (hi : ops[i]? = some oi) (hs : Region.noSelect ops = true) (hQ : NP Q) (hf : Region.free .any ops listed i = true) (hr : (Region.ready .any ops listed).contains i = true)
    (hg : oi.guard = none) (hy : PO P n e oi v) (h : JA P ops Q n w0 D M z fuel (listed.setIfInBounds i true) L (updO e oi.dst v)) : JA P ops Q n w0 D M z (fuel + 1) listed L e := fun w hw hq =>
  anyC.firstP hi hs hQ fuel listed (act n e) w (Region.free_spec hi hf) (by simpa using hr) (.inl ⟨by simp [Region.wanted, hg], fun w' _ => by rw [act_eval']; exact hy w'⟩) (by rw [act_put]; exact h w hw hq)

theorem JA.takeOn (i : Nat) {oi : Oper} {v : Value} {j : Nat} {b : Bool} {t : Tmp} (hi : ops[i]? = some oi) (hs : Region.noSelect ops = true) (hQ : NP Q) (hz : lateB ops z i = true) (hf : Region.free .any ops listed i = true) (hr : (Region.ready .any ops listed).contains i = true)
    (hg : oi.guard = some (j, b)) (hj : (ops[j]?).bind (·.dst) = some t) (ht : Nat.blt t n = true) (hv : e t = .bool b) (hy : LO P n w0 D M e oi v) (h : JA P ops Q n w0 D M z fuel (listed.setIfInBounds i true) L (updO e oi.dst v)) :
    JA P ops Q n w0 D M z (fuel + 1) listed L e := fun w hw hq => by
  have hlt : t < n := (Nat.blt_eq (x := t) (y := n)) ▸ ht
  have hyy : yielded ops (act n e).tmps j = some b := by simp [yielded, hj, act, hlt, hv]
  exact anyC.first hi hs hQ hz fuel listed (act n e) w (Region.free_spec hi hf) (by simpa using hr) hq (.inl ⟨by simp [Region.wanted, hg, hyy], fun w' hw' => by rw [act_eval']; exact hy w' hw'⟩) (by rw [act_put]; exact h w hw hq)

theorem JA.takeOnP (i : Nat) {oi : Oper} {v : Value} {j : Nat} {b : Bool} {t : Tmp} (hi : ops[i]? = some oi) (hs : Region.noSelect ops = true) (hQ : NP Q) (hf : Region.free .any ops listed i = true) (hr : (Region.ready .any ops listed).contains i = true)
    (hg : oi.guard = some (j, b)) (hj : (ops[j]?).bind (·.dst) = some t) (ht : Nat.blt t n = true) (hv : e t = .bool b) (hy : PO P n e oi v) (h : JA P ops Q n w0 D M z fuel (listed.setIfInBounds i true) L (updO e oi.dst v)) :
    JA P ops Q n w0 D M z (fuel + 1) listed L e := fun w hw hq => by
  have hlt : t < n := (Nat.blt_eq (x := t) (y := n)) ▸ ht
  have hyy : yielded ops (act n e).tmps j = some b := by simp [yielded, hj, act, hlt, hv]
  exact anyC.firstP hi hs hQ fuel listed (act n e) w (Region.free_spec hi hf) (by simpa using hr) (.inl ⟨by simp [Region.wanted, hg, hyy], fun w' _ => by rw [act_eval']; exact hy w'⟩) (by rw [act_put]; exact h w hw hq)

theorem JA.takeOff (i : Nat) {oi : Oper} {j : Nat} {b : Bool} {t : Tmp} (hi : ops[i]? = some oi) (hs : Region.noSelect ops = true) (hQ : NP Q) (hf : Region.free .any ops listed i = true) (hr : (Region.ready .any ops listed).contains i = true)
    (hg : oi.guard = some (j, !b)) (hj : (ops[j]?).bind (·.dst) = some t) (ht : Nat.blt t n = true) (hv : e t = .bool b) (h : JA P ops Q n w0 D M z fuel (listed.setIfInBounds i true) L (updO e oi.dst undef)) :
    JA P ops Q n w0 D M z (fuel + 1) listed L e := fun w hw hq => by
  have hlt : t < n := (Nat.blt_eq (x := t) (y := n)) ▸ ht
  have hyy : yielded ops (act n e).tmps j = some b := by simp [yielded, hj, act, hlt, hv]
  exact anyC.firstP hi hs hQ fuel listed (act n e) w (Region.free_spec hi hf) (by simpa using hr) (.inr ⟨by cases b <;> simp [Region.wanted, hg, hyy], rfl⟩) (by rw [act_put]; exact h w hw hq)

/-- What is to be shown of an operation that comes up. -/
def JX (P : Program) (ops : Array Oper) (Q : Exit → Act → World → Prop) (n : Nat) (w0 : World) (D : List Nat) (M : List Res) (z fuel : Nat) (listed : Array Bool) (L : List Res) (e : Env) (i : Nat) : Prop :=
  ∀ w, St w0 D L w → wpOp P ops Q i (fun a' w' => (Qw w0 D M w → z ≤ i ∨ Qw w0 D M w') ∧ anyC P ops Q (Qw w0 D M) z fuel (listed.setIfInBounds i true) a' w') (act n e) w

theorem anyC.late {C C' : World → Prop} : ∀ (fuel : Nat) (listed : Array Bool) (a : Act) (w : World), (∀ i, listed.getD i true = false → z ≤ i) → anyC P ops Q C' z fuel listed a w → anyC P ops Q C z fuel listed a w
  | 0, _, _, _, _, h => h
  | fuel + 1, listed, _, _, hl, h => ⟨h.1, fun i hi => wpOp_mono (fun a' w' h' => ⟨fun _ => .inl (hl i (mem_ready.1 hi).1), anyC.late fuel _ a' w' (fun k hk => hl k (by
      by_cases hik : i = k
      · subst hik; exact (mem_ready.1 hi).1
      · rw [getD_set_ne true hik] at hk; exact hk)) h'.2⟩) (h.2 i hi)⟩
theorem JX.op {i : Nat} {o : Oper} {Φ : Value → List Res → Prop} (hi : ops[i]? = some o) (hg : o.guard = none) (ho : JO P n w0 D L e o Φ)
    (h : ∀ v L', Φ v L' → (∀ r ∈ M, r ∈ L') ∧ JA P ops Q n w0 D M z fuel (listed.setIfInBounds i true) L' (updO e o.dst v)) : JX P ops Q n w0 D M z fuel listed L e i := fun w hw => by
  unfold wpOp
  simp only [hi]
  rw [if_pos (by simp [Region.wanted, hg])]
  refine .inl (ho w hw _ Q fun v L' w' hΦ hw' => ?_)
  obtain ⟨h1, h2⟩ := h v L' hΦ
  have hq := hw'.qw.sub h1
  exact ⟨fun _ => .inr hq, h2 w' hw' hq⟩

/-- The last operation of all: it may turn what it will. -/
theorem JX.last {i : Nat} {o : Oper} {Φ : Value → List Res → Prop} (hi : ops[i]? = some o) (hg : o.guard = none) (hiz : z ≤ i) (hr : Region.ready .any ops (listed.setIfInBounds i true) = []) (ho : JO P n w0 D L e o Φ)
    (h : ∀ v L', Φ v L' → JQ Q .normal n w0 D L' (updO e o.dst v)) : JX P ops Q n w0 D M z fuel listed L e i := fun w hw => by
  unfold wpOp
  simp only [hi]
  rw [if_pos (by simp [Region.wanted, hg])]
  refine .inl (ho w hw _ Q fun v L' w' hΦ hw' => ⟨fun _ => .inl hiz, ?_⟩)
  have := h v L' hΦ w' hw'
  cases fuel with
  | zero => exact ⟨hr, this⟩
  | succ f => exact ⟨fun _ => this, by rw [hr]; simp⟩

/-- An operation behind which only such wait as each wait for all before them: it may turn what it will. -/
theorem JX.late {i : Nat} {o : Oper} {Φ : Value → List Res → Prop} (hi : ops[i]? = some o) (hg : o.guard = none) (hiz : z ≤ i) (hl : ((List.range listed.size).all fun k => Nat.ble z k || listed.getD k true) = true) (ho : JO P n w0 D L e o Φ)
    (h : ∀ v L', Φ v L' → JA P ops Q n w0 D [] z fuel (listed.setIfInBounds i true) L' (updO e o.dst v)) : JX P ops Q n w0 D M z fuel listed L e i := fun w hw => by
  unfold wpOp
  simp only [hi]
  rw [if_pos (by simp [Region.wanted, hg])]
  refine .inl (ho w hw _ Q fun v L' w' hΦ hw' => ⟨fun _ => .inl hiz, ?_⟩)
  have h1 := h v L' hΦ w' hw' (hw'.qw.sub (by simp))
  have hlate : ∀ k, listed.getD k true = false → z ≤ k := fun k hk => by
    rw [List.all_eq_true] at hl
    have hks : k < listed.size := by
      rcases Nat.lt_or_ge k listed.size with h' | h'
      · exact h'
      · simp [Array.getElem?_eq_none h'] at hk
    have := hl k (List.mem_range.2 hks)
    rw [hk, Bool.or_false] at this
    exact Nat.le_of_ble_eq_true this
  refine anyC.late fuel _ _ _ (fun k hk => hlate k ?_) h1
  by_cases hik : i = k
  · subst hik
    by_cases his : i < listed.size
    · simp [his] at hk
    · simp [Array.getElem?_eq_none (Nat.le_of_not_lt his), his] at hk
  · rw [getD_set_ne true hik] at hk; exact hk

theorem JA.one {i : Nat} (hr : Region.ready .any ops listed = [i]) (h : JX P ops Q n w0 D M z fuel listed L e i) : JA P ops Q n w0 D M z (fuel + 1) listed L e := fun w hw _ =>
  ⟨(fun h0 => by rw [hr] at h0; cases h0), fun j hj => by rw [hr, List.mem_singleton] at hj; subst hj; exact h w hw⟩
theorem JA.two {i j : Nat} (hr : Region.ready .any ops listed = [i, j]) (h : JX P ops Q n w0 D M z fuel listed L e i) (h' : JX P ops Q n w0 D M z fuel listed L e j) : JA P ops Q n w0 D M z (fuel + 1) listed L e := fun w hw _ =>
  ⟨(fun h0 => by rw [hr] at h0; cases h0), fun q hq => by
    rw [hr] at hq
    simp only [List.mem_cons, List.not_mem_nil, or_false] at hq
    rcases hq with rfl | rfl
    · exact h w hw
    · exact h' w hw⟩
theorem JA.three {i j k : Nat} (hr : Region.ready .any ops listed = [i, j, k]) (h : JX P ops Q n w0 D M z fuel listed L e i) (h' : JX P ops Q n w0 D M z fuel listed L e j) (h'' : JX P ops Q n w0 D M z fuel listed L e k) : JA P ops Q n w0 D M z (fuel + 1) listed L e := fun w hw _ =>
  ⟨(fun h0 => by rw [hr] at h0; cases h0), fun q hq => by
    rw [hr] at hq
    simp only [List.mem_cons, List.not_mem_nil, or_false] at hq
    rcases hq with rfl | rfl | rfl
    · exact h w hw
    · exact h' w hw
    · exact h'' w hw⟩
theorem JA.done (hr : Region.ready .any ops listed = []) (h : JQ Q .normal n w0 D L e) : JA P ops Q n w0 D M z fuel listed L e := fun w hw _ => by
  cases fuel with
  | zero => exact ⟨hr, h w hw⟩
  | succ f => exact ⟨fun _ => h w hw, by rw [hr]; simp⟩
end
end Go.Proofs.YtkmpmjficoohkaaGreat
