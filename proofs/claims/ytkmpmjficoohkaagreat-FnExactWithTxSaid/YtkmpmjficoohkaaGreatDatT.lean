/-
  Texts of the walk, joined: what each one proves stands at its theorems.
-/
import Derived.Test.YtkmpmjficoohkaaGreatS06HELD
import Derived.Lib.AppendZerosOnto
import Derived.Lib.Overlaps
import Derived.Laws.Cover3
import Derived.WideLaws
import Derived.Lib.ItoaLen
set_option linter.unusedSimpArgs false
set_option linter.unusedVariables false
set_option linter.unnecessarySimpa false
namespace Go.Proofs.YtkmpmjficoohkaaGreat
open Go Go.RowKit

/-- Where a piece of a slice begins. -/
def subA (k : Nat) (a : Option Addr) (c lo : Nat) : Option Addr := if c = lo then a else a.map fun g => ⟨g.block, g.off + lo * k, none⟩

section
variable {P : Program} {ops : Array Oper} {Q : Exit → Act → World → Prop} {n : Nat} {w0 w : World} {D : List Nat} {L : List Res} {e : Env}
variable {d : Option Tmp} {ty : TypeId} {pos : String} {aft : Array Edge} {gd : Option (Nat × Bool)}

theorem sub_zero {k c : Nat} {a : Option Addr} (ha : a.bind (·.spot) = none) : subA k a c 0 = a := by
  unfold subA
  split
  · rfl
  · cases a with
    | none => rfl
    | some g =>
      obtain ⟨b, o, s⟩ := g
      simp only [Option.bind_some] at ha
      subst ha
      simp

/-- What is seen of a piece. -/
theorem Sees.sub {a : Option Addr} {k m c : Nat} {cs : List Value} (h : Sees w (.slice a m c) k m cs) (lo hi : Nat) (h1 : lo ≤ hi) (h2 : hi ≤ m) :
    Sees w (.slice (subA k a c lo) (hi - lo) (c - lo)) k (hi - lo) ((cs.drop (lo * k)).take ((hi - lo) * k)) := by
  obtain ⟨hl, h⟩ := h
  have e1 : lo * k + (hi - lo) * k = hi * k := by rw [← Nat.add_mul]; congr 1; omega
  have e2 : hi * k ≤ m * k := Nat.mul_le_mul_right k h2
  refine ⟨by rw [List.length_take, List.length_drop, hl]; omega, ?_⟩
  rcases h with ⟨hv, rfl⟩ | ⟨b, o, cap, hv, h3, h4, h5, h6⟩
  · simp only [Value.slice.injEq] at hv
    obtain ⟨rfl, _, rfl⟩ := hv
    have : lo = 0 := by omega
    subst this
    have : hi = 0 := by omega
    subst this
    exact .inl ⟨by simp [subA], rfl⟩
  · simp only [Value.slice.injEq] at hv
    obtain ⟨rfl, _, rfl⟩ := hv
    unfold subA
    split
    · rename_i hc
      have hz : hi - lo = 0 := by omega
      rw [hz]
      refine .inr ⟨b, o, c - lo, rfl, by omega, by omega, h5, fun j u hj => ?_⟩
      simp at hj
    · refine .inr ⟨b, o + lo * k, c - lo, rfl, by omega, by omega, h5, fun j u hj => ?_⟩
      rw [List.getElem?_take] at hj
      split at hj
      · rw [List.getElem?_drop] at hj
        have := h6 _ _ hj
        rwa [← Nat.add_assoc] at this
      · cases hj
theorem Sees.hi {a : Option Addr} {k m c : Nat} {cs : List Value} (h : Sees w (.slice a m c) k m cs) (hi : Nat) (h2 : hi ≤ m) : Sees w (.slice a hi c) k hi (cs.take (hi * k)) := by
  have h0 := h.sub 0 hi (Nat.zero_le _) h2
  have ha : a.bind (·.spot) = none := by
    rcases h.2 with ⟨hv, _⟩ | ⟨b, o, cap, hv, _⟩ <;> (simp only [Value.slice.injEq] at hv; obtain ⟨rfl, _⟩ := hv; rfl)
  rw [sub_zero ha] at h0
  simpa using h0

/-- Cells laid behind a slice whose row is owned. -/
theorem St.storeRow (hw : St w0 D L w) {i el k m c o : Nat} {a : Option Addr} {cs vs : List Value} (hL : L[i]? = some (.row (.slice a m c) el k m cs)) (h0 : 0 < vs.length) (hfit : o + vs.length ≤ cs.length) (h1 : ∀ u ∈ vs, u.oneCell' = true) :
    ∃ g, a = some ⟨g, 0, none⟩ ∧ ∃ w', (storeCells ⟨g, o, none⟩ vs).run P w = .ok () w' ∧ St w0 D (L.set i (.row (.slice a m c) el k m (cs.take o ++ vs ++ cs.drop (o + vs.length)))) w' := by
  have hrow := hw.get hL
  have hcl := hrow.1
  rcases hrow.2 with ⟨hvv, hm0⟩ | ⟨g, cap, cur, hvv, hg0, hg, h2, h3, h4, h5⟩
  · subst hm0
    simp only [Nat.zero_mul] at hcl
    omega
  · simp only [Value.slice.injEq] at hvv
    obtain ⟨rfl, _, rfl⟩ := hvv
    have hcur : cs.length ≤ cur.size := by rw [← h5, List.length_take, Array.length_toList]; exact Nat.min_le_right _ _
    have hst := run_storeCells_R P g o el vs 0 cur w hg (by omega) h1
    simp only [Nat.add_zero] at hst
    refine ⟨g, rfl, _, hst, ?_⟩
    refine hw.turn1 hL rfl rfl rfl (by simp) (fun q _ hq => setRow_other w g q _ (by simpa [Res.ids, Value.ownBlock] using hq)) ?_ (by simp [Res.ids, Value.ownBlock]) (fun q hq => .inl (by simpa [Res.ids, Value.ownBlock] using hq))
    refine ⟨?_, .inr ⟨g, c, _, rfl, hg0, hg.setRow (by simp only [List.size_toArray, List.length_append, List.length_take, List.length_drop, Array.length_toList]; omega), h2, h3, ?_, ?_⟩⟩
    · rw [List.length_append, List.length_append, List.length_take, List.length_drop]
      omega
    · simp only [List.size_toArray, List.length_append, List.length_take, List.length_drop, Array.length_toList]
      omega
    · show (cur.toList.take o ++ vs ++ cur.toList.drop (o + vs.length)).take (m * k) = _
      have e1 : cs.take o = cur.toList.take o := by rw [← h5, List.take_take, Nat.min_eq_left (by omega)]
      have e2 : cs.drop (o + vs.length) = (cur.toList.drop (o + vs.length)).take (m * k - (o + vs.length)) := by rw [← h5, List.drop_take]
      rw [e1, e2, List.take_append]
      have e3 : (cur.toList.take o ++ vs).length = o + vs.length := by
        rw [List.length_append, List.length_take, Array.length_toList]; omega
      rw [e3, List.take_of_length_le (by rw [e3]; omega)]

/-- The first cells of what a copy takes. -/
def Fst (P : Program) (w : World) (k q : Nat) (x : Value) (news : List Value) : Prop := ∀ w', w'.heap = w.heap → (Builtin.firstCells k q x).run P w' = .ok news.toArray w'
theorem Fst.sees {k m q c : Nat} {a : Option Addr} {cs : List Value} (h : Sees w (.slice a m c) k m cs) (hq : q ≤ m) : Fst P w k q (.slice a m c) (cs.take (q * k)) := by
  obtain ⟨hl, h⟩ := h
  intro w' hw'
  rcases h with ⟨hv, rfl⟩ | ⟨b, o, cap, hv, h2, h3, h4, h5⟩
  · simp only [Value.slice.injEq] at hv
    obtain ⟨rfl, -, rfl⟩ := hv
    have : q = 0 := by omega
    subst this
    simp [Builtin.firstCells]
  · simp only [Value.slice.injEq] at hv
    obtain ⟨rfl, -, rfl⟩ := hv
    refine run_firstCells_some w' k q ⟨b, o, none⟩ m c _ ?_ fun j v hj => ?_
    · rw [List.length_take, hl]
      exact Nat.min_eq_left (Nat.mul_le_mul_right k hq)
    · rw [add_lit]
      rw [List.getElem?_take] at hj
      split at hj
      · have := h5 j v hj
        simpa [World.cell?, hw'] using this
      · cases hj

/-- copy into a row that is owned. -/
theorem JO.copy (i : Nat) {x y : Operand} {t t' el k m c lo dl dc q sl sc : Nat} {a sa : Option Addr} {cs news cs' : List Value} (hL : L[i]? = some (.row (.slice a m c) el k m cs)) (ht : P.underlying t = some (.slice el)) (hs : ∀ w, (sizeOf el).run P w = .ok k w)
    (hx : rd n e x = .slice (subA k a c lo) dl dc) (hy : rd n e y = .slice sa sl sc) (hq : Nat.min sl dl = q) (hfit : lo + q ≤ m) (h0 : 0 < q) (hk : 0 < k) (hmc : m ≤ c) (hsrc : ∀ w, St w0 D L w → Fst P w k q (.slice sa sl sc) news) (hnl : news.length = q * k)
    (hone : ∀ u ∈ news, u.oneCell' = true) (hc : cs.take (lo * k) ++ news ++ cs.drop (lo * k + news.length) = cs') :
    JO P n w0 D L e ⟨d, .call ⟨.builtin .copy, #[x, y], #[t, t']⟩, ty, pos, aft, gd⟩ (fun v L' => L' = L.set i (.row (.slice a m c) el k m cs')) := JO.ofRun fun w hw => by
  have hcl := (hw.get hL).1
  have hqk : 0 < q * k := Nat.mul_pos h0 hk
  have e1 : lo * k + q * k = (lo + q) * k := by rw [Nat.add_mul]
  have e2 : (lo + q) * k ≤ m * k := Nat.mul_le_mul_right k hfit
  obtain ⟨g, rfl, w', hst, hw'⟩ := hw.storeRow (P := P) hL (o := lo * k) (vs := news) (by omega) (by omega) hone
  have hsub : subA k (some ⟨g, 0, none⟩) c lo = some ⟨g, lo * k, none⟩ := by
    unfold subA
    rw [if_neg (by omega)]
    simp
  rw [hsub] at hx
  rw [hc] at hw'
  have hf := hsrc w hw w rfl
  refine ⟨goInt q, _, w', ?_, rfl, hw'⟩
  simp [execOp, resolve, invoke, builtin, hx, hy, Builtin.copy_, run_underlying ht, hs, Builtin.lenOf, hq, hf, hst]

/-- clear(s[lo:]), where the row is owned. -/
theorem JO.clear (i : Nat) {x : Operand} {t el k m c lo dc : Nat} {a : Option Addr} {cs : List Value} {z : Value} (hL : L[i]? = some (.row (.slice a m c) el k m cs)) (ht : P.underlying t = some (.slice el)) (hz : ∀ w, (zeroValue el).run P w = .ok z w) (hzc : z.cells.size = k) (hzo : ∀ u ∈ z.cells, u.oneCell' = true)
    (hx : rd n e x = .slice (subA k a c lo) (m - lo) dc) (hk : 0 < k) (hlo : lo ≤ m) (hmc : m ≤ c) :
    JO P n w0 D L e ⟨d, .call ⟨.builtin .clear, #[x], #[t]⟩, ty, pos, aft, gd⟩ (fun v L' => ∃ zs : List Value, zs.length = (m - lo) * k ∧ L' = L.set i (.row (.slice a m c) el k m (cs.take (lo * k) ++ zs))) := JO.ofRun fun w hw => by
  have hcl := (hw.get hL).1
  by_cases h0 : lo = m
  · subst h0
    refine ⟨.tuple #[], _, w, ?_, ⟨[], by simp, rfl⟩, ?_⟩
    · cases hsub : subA k a c lo with
      | none => simp [execOp, resolve, invoke, builtin, hx, hsub, Builtin.clear_, run_underlying ht]
      | some g => simp [execOp, resolve, invoke, builtin, hx, hsub, Builtin.clear_, run_underlying ht]
    · rw [List.append_nil, List.take_of_length_le (by omega)]
      have : L.set i (.row (.slice a lo c) el k lo cs) = L := List.ext_getElem? fun j => by
        rw [List.getElem?_set]
        split
        · rename_i hij; subst hij; split <;> simp_all
        · rfl
      rw [this]; exact hw
  · have hn : (Builtin.zeroCells z.cells (m - lo)).size = (m - lo) * k := by rw [size_zeroCells, hzc]
    have hpos : 0 < (m - lo) * k := Nat.mul_pos (by omega) hk
    have e1 : lo * k + (m - lo) * k = m * k := by rw [← Nat.add_mul]; congr 1; omega
    have hone : ∀ u ∈ (Builtin.zeroCells z.cells (m - lo)).toList, u.oneCell' = true := by
      intro u hu
      simp only [Builtin.zeroCells, Array.toList_map, List.mem_map, Array.mem_toList_iff, Array.mem_range] at hu
      obtain ⟨j, hj, rfl⟩ := hu
      have hjk : j % z.cells.size < z.cells.size := Nat.mod_lt _ (by omega)
      rw [getElem!_pos z.cells (j % z.cells.size) hjk]
      exact hzo _ (Array.getElem_mem hjk)
    obtain ⟨g, rfl, w', hst, hw'⟩ := hw.storeRow (P := P) hL (o := lo * k) (vs := (Builtin.zeroCells z.cells (m - lo)).toList) (by rw [Array.length_toList, hn]; exact hpos) (by rw [Array.length_toList, hn]; omega) hone
    have hsub : subA k (some ⟨g, 0, none⟩) c lo = some ⟨g, lo * k, none⟩ := by
      unfold subA
      rw [if_neg (by omega)]
      simp
    rw [hsub] at hx
    rw [List.drop_of_length_le (by simp only [Array.length_toList, hn]; omega), List.append_nil] at hw'
    refine ⟨.tuple #[], _, w', ?_, ⟨_, by rw [Array.length_toList, hn], rfl⟩, hw'⟩
    have hne : m - lo ≠ 0 := by omega
    obtain ⟨p, hp⟩ : ∃ p, m - lo = p + 1 := ⟨m - lo - 1, by omega⟩
    rw [hp] at hx hst
    simp [execOp, resolve, invoke, builtin, hx, Builtin.clear_, run_underlying ht, hz, hst]

/-- append, the row and its length read otherwise. -/
theorem JO.append' (i : Nat) {t u el k m c q by' n' : Nat} {x y : Operand} {vy : Value} {a : Option Addr} {cs news cs' : List Value} {ti : TypeInfo} {z : Value} {el2 : TypeId}
    (hL : L[i]? = some (.row (.slice a m c) el k m cs)) (ht : P.underlying t = some (.slice el)) (hu : P.underlying u = some (.slice el2))
    (hti : ∀ w, (typeInfo el).run P w = .ok ti w) (hk : ti.size = k) (hby : ti.bytes = by') (hz : ti.zero = some z) (hzc : z.cells.size = k)
    (hx : rd n e x = .slice a m c) (hy : rd n e y = vy) (hsrc : ∀ w, St w0 D L w → Src P w k q vy news) (hb : (m + q) * by' ≤ 140737488355328) (hmax : m + q ≤ 9223372036854775807) (hn : m + q = n') (hc : cs ++ news = cs') :
    JO P n w0 D L e ⟨d, .call ⟨.builtin .append, #[x, y], #[t, u]⟩, ty, pos, aft, gd⟩ (fun v L' => ∃ a' c', v = .slice a' n' c' ∧ L' = L.set i (.row (.slice a' n' c') el k n' cs')) := by
  subst hn; subst hc
  exact JO.append i hL ht hu hti hk hby hz hzc hx hy hsrc hb hmax

end

theorem mapS_flat (l : List Str) : l.map str = l.flatMap (fun s => [str s]) := by
  induction l with
  | nil => rfl
  | cons x l ih => rw [List.map_cons, List.flatMap_cons, ih]; rfl
theorem Fst.mid {P : Program} {w : World} {k M i q c : Nat} {a : Option Addr} {X Y : List Value} (h : Sees w (.slice a M c) k M X) (hi : i ≤ M) (hq : q ≤ M - i) (hY : (X.drop (i * k)).take (q * k) = Y) : Fst P w k q (.slice (subA k a c i) (M - i) (c - i)) Y := by
  have h1 := Fst.sees (P := P) (h.sub i M hi (Nat.le_refl _)) hq
  rw [List.take_take, Nat.min_eq_left (Nat.mul_le_mul_right k hq), hY] at h1
  exact h1
theorem sees_none {w : World} {k m m' c : Nat} {cs : List Value} (h : Sees w (.slice none m c) k m' cs) : m' = 0 := by
  rcases h.2 with ⟨_, h0⟩ | ⟨b, o, c', hv, _⟩
  · exact h0
  · simp at hv
theorem PO.eqNil {P : Program} {n : Nat} {e : Env} {d : Option Tmp} {ty : TypeId} {pos : String} {aft : Array Edge} {gd : Option (Nat × Bool)} {x y : Operand} {a : Option Addr} {m c : Nat} {t u el : TypeId} (ht : P.underlying t = some (.slice el)) (hx : rd n e x = .slice a m c) (hy : rd n e y = .slice none 0 0) :
    PO P n e ⟨d, .binOp .eql t x y u, ty, pos, aft, gd⟩ (.bool a.isNone) := fun w => by
  have h := run_equal_slice_nil (P := P) w t el a m c ht
  simp [execOp, hx, hy, eqGuard, binOp, h]
theorem JQ.nilrow (el k : Nat) {Q : Exit → Act → World → Prop} {x : Exit} {n : Nat} {w0 : World} {D : List Nat} {L : List Res} {e : Env} (h : JQ Q x n w0 D (.row (.slice none 0 0) el k 0 [] :: L) e) : JQ Q x n w0 D L e := fun w hw => by
  refine h w ⟨⟨fun r hr => ?_, ?_, ?_, hw.room, hw.glob⟩, hw.os, hw.tape, hw.output, hw.size, ?_, hw.keep⟩
  · rcases List.mem_cons.1 hr with rfl | hr
    · exact ⟨by simp, .inl ⟨rfl, rfl⟩⟩
    · exact hw.holds r hr
  · simpa [idsOf, Res.ids, Value.ownBlock] using hw.nodup
  · intro i hi
    exact hw.low i (by simpa [idsOf, Res.ids, Value.ownBlock] using hi)
  · intro i hi
    exact hw.fresh i (by simpa [idsOf, Res.ids, Value.ownBlock] using hi)
/-- The first place of which p holds, as IndexFunc tells it. -/
def idxI {α : Type} (p : α → Bool) (s : List α) : Int := if findAt p s < s.length then ((findAt p s : Nat) : Int) else -1
theorem idxI_found {α : Type} {p : α → Bool} {s : List α} {j : Nat} (d : α) (h : j < s.length) (hN : ∀ i, i < j → p (s.getD i d) = false) (hp : p (s.getD j d) = true) : idxI p s = ((j : Nat) : Int) := by
  have := findAt_eq p d s j h hN hp
  unfold idxI
  rw [this, if_pos h]
theorem idxI_none {α : Type} {p : α → Bool} {s : List α} {j : Nat} (d : α) (h : s.length ≤ j) (hN : ∀ i, i < j → p (s.getD i d) = false) : idxI p s = -1 := by
  have := findAt_none p d s (fun i hi => hN i (by omega))
  unfold idxI
  rw [this, if_neg (by omega)]
theorem idxI_lo {α : Type} (p : α → Bool) (s : List α) : (idxI p s = -1 ∧ findAt p s = s.length) ∨ (idxI p s = ((findAt p s : Nat) : Int) ∧ findAt p s < s.length) := by
  have := findAt_le p s
  unfold idxI
  split
  · exact .inr ⟨rfl, by assumption⟩
  · exact .inl ⟨rfl, by omega⟩
theorem notin_bk {v : Value} {kb t : Nat} {cs : List Value} (h : ∀ b, v.ownBlock = some b → b ≠ kb) : ∀ b, v.ownBlock = some b → b ∉ idsOf [bk kb t cs] := fun b hb hm => by
  simp only [idsOf, Res.ids, List.flatMap_cons, List.flatMap_nil, List.append_nil, List.mem_singleton] at hm
  exact h b hb hm
theorem St.apartF {w0 w : World} {D : List Nat} {L : List Res} (hw : St w0 D L w) (j : Nat) {v : Value} {k m kb t' : Nat} {cs cs' : List Value} (hs : Sees w0 v k m cs) (hL' : L[j]? = some (bk kb t' cs')) (hD : kb ∉ D) : ∀ b, v.ownBlock = some b → b ≠ kb := fun b hb he => by
  subst he
  have h1 : b ∈ idsOf L := mem_idsOf.2 ⟨_, List.mem_of_getElem? hL', by simp [Res.ids]⟩
  have h2 : w0.heap.size ≤ b := (hw.fresh b h1).resolve_left hD
  rcases hs.2 with ⟨rfl, _⟩ | ⟨b', o, c, rfl, _, _, h3, _⟩
  · simp [Value.ownBlock] at hb
  · simp only [Value.ownBlock, Option.some.injEq] at hb
    omega
end Go.Proofs.YtkmpmjficoohkaaGreat

set_option linter.unusedSimpArgs false
set_option linter.unusedVariables false
set_option linter.unnecessarySimpa false
namespace Go.Proofs.YtkmpmjficoohkaaGreat
open Go Go.RowKit

section
variable {α : Type} {p : α → Bool}
variable {s X : List α} {i j : Nat} (d : α)
end
/-- A cut: what stands behind is told once, whatever way led there. -/
def Cut (n : Nat) (w0 : World) (D : List Nat) (I : Env → List Res → Prop) : Exit → Act → World → Prop := fun x a w => x = .normal ∧ ∃ e' L', a = act n e' ∧ St w0 D L' w ∧ I e' L'
section
variable {P : Program} {Q : Exit → Act → World → Prop} {n : Nat} {w0 : World} {D : List Nat} {L : List Res} {e : Env} {I : Env → List Res → Prop}
theorem NP.cut : NP (Cut n w0 D I) := fun c a w h => by cases h.1
theorem JQ.cut (h : I e L) : JQ (Cut n w0 D I) .normal n w0 D L e := fun _ hw => ⟨rfl, e, L, rfl, hw, h⟩
theorem JC.cut {c : Code} (I : Env → List Res → Prop) (h1 : JC P (Cut n w0 D I) n w0 D L c e) (h2 : ∀ e' L', I e' L' → JQ Q .normal n w0 D L' e') : JC P Q n w0 D L c e := fun w hw =>
  wp_mono (h1 w hw) fun x a w' hq => by
    obtain ⟨rfl, e', L', rfl, hst, hI⟩ := hq
    exact h2 e' L' hI w' hst
end
/- the same with what can be found left out -/
section
variable {P : Program} {ops : Array Oper} {Q : Exit → Act → World → Prop} {n : Nat} {w0 : World} {D : List Nat} {L M : List Res} {e : Env} {z fuel : Nat} {listed : Array Bool}
theorem JA.on {i : Nat} (h : JX P ops Q n w0 D M z fuel listed L e i) (hr : Region.ready .any ops listed = [i] := by kernel_rfl) : JA P ops Q n w0 D M z (fuel + 1) listed L e := JA.one hr h
theorem JX.lt {i : Nat} {o : Oper} {Φ : Value → List Res → Prop} (hi : ops[i]? = some o) (ho : JO P n w0 D L e o Φ) (h : ∀ v L', Φ v L' → JA P ops Q n w0 D [] z fuel (listed.setIfInBounds i true) L' (updO e o.dst v))
    (hg : o.guard = none := by rfl) (hiz : z ≤ i := by decide) (hl : ((List.range listed.size).all fun k => Nat.ble z k || listed.getD k true) = true := by kernel_rfl) : JX P ops Q n w0 D M z fuel listed L e i := JX.late hi hg hiz hl ho h
theorem JL.o {o : Oper} {rest : List Oper} {Φ : Value → List Res → Prop} (ho : JO P n w0 D L e o Φ) (h : ∀ v L', Φ v L' → JL P ops Q n w0 D L' rest (updO e o.dst v)) (hg : o.guard = none := by rfl) : JL P ops Q n w0 D L (o :: rest) e := JL.op hg ho h
end
end Go.Proofs.YtkmpmjficoohkaaGreat

set_option linter.unusedSimpArgs false
set_option linter.unusedVariables false
set_option linter.unnecessarySimpa false
namespace Go.Proofs.YtkmpmjficoohkaaGreat
open Go Go.RowKit
attribute [local irreducible] JL JC JQ JO LO PO JA JX Ct

theorem C_cloneC (a : Option Addr) (c : Nat) (s : List Cell) (hn : s.length ≤ 1000000000000) :
    Ct Tryz.prog 93 [.slice a s.length c] [] (fun w_ => Sees w_ (.slice a s.length c) 2 s.length (s.flatMap encC)) (fun v A' => ∃ a' c', v = .slice a' s.length c' ∧ A' = [.row (.slice a' s.length c') 131 2 s.length (s.flatMap encC)]) := by
  refine Ct.intro Tryz.func93 rfl Tryz.ntmps93 (Nat.le_of_ble_eq_true rfl) fun w0 hpre => ?_
  have hs_a : Sees w0 _ _ _ _ := hpre
  refine JC.seq ?_
  refine JC.region ?_
  refine JL.pure rfl (PO.assign (v := .slice none 0 0) rfl) ?_
  refine JL.nil ?_
  refine JQ.seq ?_
  refine JC.seq ?_
  refine JC.seq ?_
  refine JC.region ?_
  refine JL.pure rfl (PO.move (v := .slice a s.length c) rfl) ?_
  refine JL.pure rfl (PO.eqNil Tryz.underlying34 rfl rfl) ?_
  refine JL.nil ?_
  refine JQ.seq ?_
  rcases Bool.eq_false_or_eq_true (a.isNone) with h_1 | h_1
  · skip
    refine JC.condT (congrArg Value.bool h_1) ?_
    refine JC.seq ?_
    refine JC.region ?_
    refine JL.pure rfl (PO.assign (v := .slice none 0 0) rfl) ?_
    refine JL.nil ?_
    refine JQ.seq ?_
    refine JC.ret ?_
    refine JQ.thenRet ?_
    refine JQ.nilrow 131 2 ?_
    refine Done.one (.inl rfl) rfl (RV.tmp (v := .slice none 0 0) rfl) (List.Sublist.refl _) ?_
    have ha : a = none := by simpa using h_1
    have hz : s.length = 0 := sees_none (ha ▸ hpre)
    have hs0 : s = [] := List.length_eq_zero_iff.1 hz
    subst hs0
    exact ⟨none, 0, rfl, rfl⟩
  · skip
    refine JC.condF (congrArg Value.bool h_1) ?_
    refine JC.skip ?_
    refine JQ.seq ?_
    refine JC.seq ?_
    refine JC.region ?_
    refine JL.op rfl (JO.buildSlice (ps := []) (cur := #[]) Tryz.underlying34 Tryz.sizeOf131 Tryz.zeroValue131 rfl (by kernel_rfl) (by decide) (by decide)) ?_
    rintro _ _ ⟨a_2, rfl, rfl⟩
    refine JL.pure rfl (PO.move (v := .slice a s.length c) rfl) ?_
    refine JL.op rfl (JO.append' 0 (q := s.length) (news := s.flatMap encC) (n' := s.length) (cs' := s.flatMap encC) rfl Tryz.underlying34 Tryz.underlying34 Tryz.typeInfo131 rfl (by' := 32) rfl rfl rfl rfl rfl (fun w hw => Src.sees (hw.seeOut_ hs_a (fun _ _ => List.not_mem_nil)) (oneC _)) (by (try simp only [List.length_append, List.length_cons, List.length_nil, List.length_take, List.length_drop]); omega) (by (try simp only [List.length_append, List.length_cons, List.length_nil, List.length_take, List.length_drop]); omega) (by (try simp only [List.length_take, List.length_drop]); first | rfl | omega) rfl) ?_
    rintro _ _ ⟨a_3, c_4, rfl, rfl⟩
    refine JL.pure rfl (PO.assign (v := .slice a_3 s.length c_4) rfl) ?_
    refine JL.nil ?_
    refine JQ.seq ?_
    refine JC.ret ?_
    refine Done.one (.inl rfl) rfl (RV.tmp (v := .slice a_3 s.length c_4) rfl) (List.Sublist.refl _) ?_
    exact ⟨_, _, rfl, rfl⟩



theorem C_cloneS (a : Option Addr) (c : Nat) (s : List Str) (hn : s.length ≤ 1000000000000) :
    Ct Tryz.prog 96 [.slice a s.length c] [] (fun w_ => Sees w_ (.slice a s.length c) 1 s.length (s.map str)) (fun v A' => ∃ a' c', v = .slice a' s.length c' ∧ A' = [.row (.slice a' s.length c') 9 1 s.length (s.map str)]) := by
  refine Ct.intro Tryz.func96 rfl Tryz.ntmps96 (Nat.le_of_ble_eq_true rfl) fun w0 hpre => ?_
  have hs_a : Sees w0 _ _ _ _ := hpre
  refine JC.seq ?_
  refine JC.region ?_
  refine JL.pure rfl (PO.assign (v := .slice none 0 0) rfl) ?_
  refine JL.nil ?_
  refine JQ.seq ?_
  refine JC.seq ?_
  refine JC.seq ?_
  refine JC.region ?_
  refine JL.pure rfl (PO.move (v := .slice a s.length c) rfl) ?_
  refine JL.pure rfl (PO.eqNil Tryz.underlying30 rfl rfl) ?_
  refine JL.nil ?_
  refine JQ.seq ?_
  rcases Bool.eq_false_or_eq_true (a.isNone) with h_1 | h_1
  · skip
    refine JC.condT (congrArg Value.bool h_1) ?_
    refine JC.seq ?_
    refine JC.region ?_
    refine JL.pure rfl (PO.assign (v := .slice none 0 0) rfl) ?_
    refine JL.nil ?_
    refine JQ.seq ?_
    refine JC.ret ?_
    refine JQ.thenRet ?_
    refine JQ.nilrow 9 1 ?_
    refine Done.one (.inl rfl) rfl (RV.tmp (v := .slice none 0 0) rfl) (List.Sublist.refl _) ?_
    have ha : a = none := by simpa using h_1
    have hz : s.length = 0 := sees_none (ha ▸ hpre)
    have hs0 : s = [] := List.length_eq_zero_iff.1 hz
    subst hs0
    exact ⟨none, 0, rfl, rfl⟩
  · skip
    refine JC.condF (congrArg Value.bool h_1) ?_
    refine JC.skip ?_
    refine JQ.seq ?_
    refine JC.seq ?_
    refine JC.region ?_
    refine JL.op rfl (JO.buildSlice (ps := []) (cur := #[]) Tryz.underlying30 Tryz.sizeOf9 Tryz.zeroValue9 rfl (by kernel_rfl) (by decide) (by decide)) ?_
    rintro _ _ ⟨a_2, rfl, rfl⟩
    refine JL.pure rfl (PO.move (v := .slice a s.length c) rfl) ?_
    refine JL.op rfl (JO.append' 0 (q := s.length) (news := s.map str) (n' := s.length) (cs' := s.map str) rfl Tryz.underlying30 Tryz.underlying30 Tryz.typeInfo9 rfl (by' := 16) rfl rfl rfl rfl rfl (fun w hw => Src.sees (hw.seeOut_ hs_a (fun _ _ => List.not_mem_nil)) (oneS _)) (by (try simp only [List.length_append, List.length_cons, List.length_nil, List.length_take, List.length_drop]); omega) (by (try simp only [List.length_append, List.length_cons, List.length_nil, List.length_take, List.length_drop]); omega) (by (try simp only [List.length_take, List.length_drop]); first | rfl | omega) rfl) ?_
    rintro _ _ ⟨a_3, c_4, rfl, rfl⟩
    refine JL.pure rfl (PO.assign (v := .slice a_3 s.length c_4) rfl) ?_
    refine JL.nil ?_
    refine JQ.seq ?_
    refine JC.ret ?_
    refine Done.one (.inl rfl) rfl (RV.tmp (v := .slice a_3 s.length c_4) rfl) (List.Sublist.refl _) ?_
    exact ⟨_, _, rfl, rfl⟩

end Go.Proofs.YtkmpmjficoohkaaGreat

set_option linter.unusedSimpArgs false
set_option linter.unusedVariables false
set_option linter.unnecessarySimpa false
namespace Go.Proofs.YtkmpmjficoohkaaGreat
open Go Go.RowKit

@[reducible] def rC (a : Option Addr) (c : Nat) (s : List Cell) : Res := .row (.slice a s.length c) 131 2 s.length (s.flatMap encC)
@[reducible] def rS (a : Option Addr) (c : Nat) (l : List Str) : Res := .row (.slice a l.length c) 9 1 l.length (l.map str)
@[reducible] def rI (a : Option Addr) (c : Nat) (l : List Int) : Res := .row (.slice a l.length c) 3 1 l.length (l.map (Value.int .i64))

theorem Ct.weak {P : Program} {f : FuncId} {args : List Value} {A : List Res} {Pre Pre' : World → Prop} {Post Post' : Value → List Res → Prop} (h : Ct P f args A Pre Post) (hp : ∀ w, Pre' w → Pre w) (hq : ∀ v A', Post v A' → Post' v A') : Ct P f args A Pre' Post' :=
  fun w hA hw => (h w hA (hp w hw)).mono fun _ _ ⟨v, A', he, hv, hs⟩ => ⟨v, A', he, hq v A' hv, hs⟩

/-- A nil slice is a row that nobody owns a block for. -/
theorem St.nilRow {w0 w : World} {D : List Nat} {L : List Res} (hw : St w0 D L w) (t k : Nat) : St w0 D (.row (.slice none 0 0) t k 0 [] :: L) w := by
  have e : idsOf (.row (.slice none 0 0) t k 0 [] :: L) = idsOf L := by rw [idsOf_cons]; simp [Res.ids, Value.ownBlock]
  refine ⟨⟨fun r hr => ?_, by rw [e]; exact hw.nodup, by rw [e]; exact hw.low, hw.room, hw.glob⟩, hw.os, hw.tape, hw.output, hw.size, by rw [e]; exact hw.fresh, hw.keep⟩
  simp only [List.mem_cons] at hr
  rcases hr with rfl | hr
  · exact ⟨by simp, .inl ⟨rfl, rfl⟩⟩
  · exact hw.holds r hr
theorem JL.nilRow {P : Program} {ops : Array Oper} {Q : Exit → Act → World → Prop} {n : Nat} {w0 : World} {D : List Nat} {L : List Res} {e : Env} {l : List Oper} (t k : Nat) (h : JL P ops Q n w0 D (.row (.slice none 0 0) t k 0 [] :: L) l e) : JL P ops Q n w0 D L l e := fun w hw => h w (hw.nilRow t k)
theorem JC.nilRow {P : Program} {Q : Exit → Act → World → Prop} {n : Nat} {w0 : World} {D : List Nat} {L : List Res} {e : Env} {c : Code} (t k : Nat) (h : JC P Q n w0 D (.row (.slice none 0 0) t k 0 [] :: L) c e) : JC P Q n w0 D L c e := fun w hw => h w (hw.nilRow t k)

theorem JQ.nilRow {Q : Exit → Act → World → Prop} {x : Exit} {n : Nat} {w0 : World} {D : List Nat} {L : List Res} {e : Env} (t k : Nat) (h : JQ Q x n w0 D (.row (.slice none 0 0) t k 0 [] :: L) e) : JQ Q x n w0 D L e := fun w hw => h w (hw.nilRow t k)
theorem JA.nilRow {P : Program} {ops : Array Oper} {Q : Exit → Act → World → Prop} {n : Nat} {w0 : World} {D : List Nat} {L M : List Res} {e : Env} {z fuel : Nat} {listed : Array Bool} (t k : Nat) (h : JA P ops Q n w0 D M z fuel listed (.row (.slice none 0 0) t k 0 [] :: L) e) : JA P ops Q n w0 D M z fuel listed L e := fun w hw hq => h w (hw.nilRow t k) hq

end Go.Proofs.YtkmpmjficoohkaaGreat

set_option linter.unusedSimpArgs false
set_option linter.unusedVariables false
set_option linter.unnecessarySimpa false
namespace Go.Proofs.YtkmpmjficoohkaaGreat
open Go Go.RowKit

theorem addSpan_len (l : List Str) (x : Str) : l.length ≤ (addSpan l x).length ∧ (addSpan l x).length ≤ l.length + 1 := by
  unfold addSpan
  have h := findAt_le (fun y => geqB y x) l
  simp only
  split
  · split
    · omega
    · rw [insertAt_length _ _ _ h]; omega
  · simp
theorem look_len (m : MS) (key : Str) : (m.look key).1.s.length = m.s.length ∧ (m.look key).1.r.length ≤ m.r.length + 1 ∧ (m.look key).1.w.length = m.w.length := ⟨rfl, (addSpan_len _ _).2, rfl⟩
section
variable {P : Program} {n : Nat} {e : Env} {d : Option Tmp} {ty : TypeId} {pos : String} {aft : Array Edge} {gd : Option (Nat × Bool)} {x : Operand} {t u : TypeId} {ms : Array (String × TypeId)} {te : TypeId} {pe : Value}
end
end Go.Proofs.YtkmpmjficoohkaaGreat

set_option linter.unusedSimpArgs false
set_option linter.unusedVariables false
set_option linter.unnecessarySimpa false
namespace Go.Proofs.YtkmpmjficoohkaaGreat
open Go Go.RowKit

/-- Bounds of a machine: how many cells, how many spans on each list, how long a cell's texts. -/
def MS.ok (S T : Nat) (m : MS) : Prop := m.s.length ≤ S ∧ m.r.length ≤ T ∧ m.w.length ≤ T ∧ ∀ c ∈ m.s, c.1.length ≤ 1048576 ∧ c.2.length ≤ 1048576
theorem MS.ok.mono {S T S' T' : Nat} {m : MS} (h : m.ok S T) (hS : S ≤ S') (hT : T ≤ T') : m.ok S' T' := ⟨by have := h.1; omega, by have := h.2.1; omega, by have := h.2.2.1; omega, h.2.2.2⟩
theorem MS.ok.look {S T : Nat} {m : MS} (h : m.ok S T) (key : Str) : (m.look key).1.ok S (T + 1) := by
  have := look_len m key
  exact ⟨by have := h.1; omega, by have := h.2.1; omega, by have := h.2.2.1; omega, h.2.2.2⟩
theorem getD_mem {α : Type} {l : List α} {j : Nat} {d : α} (h : j < l.length) : l.getD j d ∈ l := by
  rw [List.getD_eq_getElem?_getD, List.getElem?_eq_getElem h]
  exact List.getElem_mem h
/- names -/
/- hexadecimal texts -/
def hexVal (c : UInt8) : Option Nat := if 48 ≤ c.toNat ∧ c.toNat ≤ 57 then some (c.toNat - 48) else if 97 ≤ c.toNat ∧ c.toNat ≤ 102 then some (c.toNat - 87) else none
def unhexL : Str → Option Str
  | [] => some []
  | [_] => none
  | a :: b :: t => match hexVal a, hexVal b, unhexL t with
    | some h, some l, some r => some (UInt8.ofNat (16 * h + l) :: r)
    | _, _, _ => none
def unhex (t : Str) : Str × Bool := if 40000 < t.length then ([], false) else match unhexL t with
  | some r => (r, true)
  | none => ([], false)
namespace MS
/- files -/
def block (m : MS) (id place : Int) : MS × Str := match m.look (keyNum (keyNum ([105, 47] : Str) id ([47, 98, 47] : Str)) place []) with | (m, v) => (m, (unhex v).1)

/- pipes -/
/- processes -/
def state (m : MS) (id : Int) : MS × Int := m.num (keyNum ([114, 47] : Str) id ([47, 115] : Str))
/- signals -/
/- pages -/
/- output -/
end MS
end Go.Proofs.YtkmpmjficoohkaaGreat

set_option linter.unusedSimpArgs false
set_option linter.unusedVariables false
set_option linter.unnecessarySimpa false
namespace Go.Proofs.YtkmpmjficoohkaaGreat
open Go Go.RowKit

/-- A call; what it is answered. -/
structure CL where
  kind : Int
  name : Str
  to_ : Str
  a : Int
  b : Int
  text : Str
structure AN where
  code : Int
  n : Int
  text : Str
structure CL.ok (c : CL) (B : Nat) : Prop where
  h1 : -9223372036854775808 ≤ c.kind ∧ c.kind ≤ 9223372036854775807
  h2 : -9223372036854775808 ≤ c.a ∧ c.a ≤ 9223372036854775807
  h3 : -9223372036854775808 ≤ c.b ∧ c.b ≤ 9223372036854775807
  h4 : c.name.length ≤ B
  h5 : c.to_.length ≤ B
  h6 : c.text.length ≤ B
def szCallF (c : CL) (l : Int) : Int :=
  if l - (c.name.length : Int) < 0 then -1 else if l - (c.name.length : Int) - (c.to_.length : Int) < 0 then -1 else
  if l - (c.name.length : Int) - (c.to_.length : Int) - (c.text.length : Int) < 0 then -1 else l - (c.name.length : Int) - (c.to_.length : Int) - (c.text.length : Int)
end Go.Proofs.YtkmpmjficoohkaaGreat

set_option linter.unusedSimpArgs false
set_option linter.unusedVariables false
set_option linter.unnecessarySimpa false
namespace Go.Proofs.YtkmpmjficoohkaaGreat
open Go Go.RowKit
attribute [local irreducible] JL JC JQ JO LO PO JA JX Ct

theorem N_szCall (c : CL) (left : Int) (hc : c.ok 9223372036854775807) (hleft : -9223372036854775808 ≤ left ∧ left ≤ 9223372036854775807) (hl0 : 0 ≤ left) :
    Ct Tryz.prog 110 [.agg #[.int .i64 c.kind, str c.name, str c.to_, .int .i64 c.a, .int .i64 c.b, str c.text], .int .i64 left] ([]) (fun _ => True) (fun v A' => ∃ r0, szCallF c left = r0 ∧ v = .int .i64 r0 ∧ A' = []) := by
  refine Ct.intro Tryz.func110 rfl Tryz.ntmps110 (Nat.le_of_ble_eq_true rfl) fun w0 hpre => ?_
  obtain ⟨hc1, hc2, hc3, hc4, hc5, hc6⟩ := id hc
  refine JC.seq ?_
  refine JC.region ?_
  refine JL.op rfl (JO.box (cs := [.int .i64 c.kind, str c.name, str c.to_, .int .i64 c.a, .int .i64 c.b, str c.text]) rfl rfl) ?_
  rintro _ _ ⟨b_1, rfl, rfl⟩
  refine JL.pure rfl (PO.assign (v := .int .i64 0) rfl) ?_
  refine JL.nil ?_
  refine JQ.seq ?_
  refine JC.seq ?_
  refine JC.region ?_
  refine JL.pure rfl (PO.move (v := .int .i64 left) rfl) ?_
  refine JL.pure rfl (PO.fieldAddr fo148_1 rfl) ?_
  refine JL.ld rfl (LO.load1 0 (v := str c.name) rfl rfl Tryz.isAgg9 rfl) ?_
  refine JL.pure rfl (PO.lenS Tryz.underlying9 rfl) ?_
  refine JL.pure rfl (PO.sub (c := left - (c.name.length : Int)) rfl rfl (wr (by omega))) ?_
  refine JL.pure rfl (PO.assign (v := .int .i64 (left - (c.name.length : Int))) rfl) ?_
  refine JL.nil ?_
  refine JQ.seq ?_
  refine JC.seq ?_
  refine JC.seq ?_
  refine JC.region ?_
  refine JL.pure rfl (PO.move (v := .int .i64 (left - (c.name.length : Int))) rfl) ?_
  refine JL.pure rfl (PO.lss rfl rfl) ?_
  refine JL.nil ?_
  refine JQ.seq ?_
  by_cases h_2 : (left - (c.name.length : Int)) < 0
  · skip
    refine JC.condT (congrArg Value.bool (decide_eq_true h_2)) ?_
    refine JC.seq ?_
    refine JC.region ?_
    refine JL.pure rfl (PO.assign (v := .int .i64 (-1)) rfl) ?_
    refine JL.nil ?_
    refine JQ.seq ?_
    refine JC.ret ?_
    refine JQ.thenRet ?_
    refine Done.one (.inl rfl) rfl (RV.tmp (v := .int .i64 (-1)) rfl) (List.nil_sublist _) ?_
    exact ⟨(-1), (by simp only [szCallF, h_2, if_true, if_false, Bool.false_eq_true, Bool.not_true, Bool.not_false]; (repeat (first | rw [if_pos (by omega)] | rw [if_neg (by omega)])); all_goals (first | rfl | simp only [if_true, if_false, Bool.false_eq_true, Bool.not_true, Bool.not_false, h_2])), rfl, rfl⟩
  · skip
    refine JC.condF (congrArg Value.bool (decide_eq_false h_2)) ?_
    refine JC.skip ?_
    refine JQ.seq ?_
    refine JC.seq ?_
    refine JC.region ?_
    refine JL.pure rfl (PO.move (v := .int .i64 (left - (c.name.length : Int))) rfl) ?_
    refine JL.pure rfl (PO.fieldAddr fo148_2 rfl) ?_
    refine JL.ld rfl (LO.load1 0 (v := str c.to_) rfl rfl Tryz.isAgg9 rfl) ?_
    refine JL.pure rfl (PO.lenS Tryz.underlying9 rfl) ?_
    refine JL.pure rfl (PO.sub (c := (left - (c.name.length : Int)) - (c.to_.length : Int)) rfl rfl (wr (by omega))) ?_
    refine JL.pure rfl (PO.assign (v := .int .i64 ((left - (c.name.length : Int)) - (c.to_.length : Int))) rfl) ?_
    refine JL.nil ?_
    refine JQ.seq ?_
    refine JC.seq ?_
    refine JC.seq ?_
    refine JC.region ?_
    refine JL.pure rfl (PO.move (v := .int .i64 ((left - (c.name.length : Int)) - (c.to_.length : Int))) rfl) ?_
    refine JL.pure rfl (PO.lss rfl rfl) ?_
    refine JL.nil ?_
    refine JQ.seq ?_
    by_cases h_3 : ((left - (c.name.length : Int)) - (c.to_.length : Int)) < 0
    · skip
      refine JC.condT (congrArg Value.bool (decide_eq_true h_3)) ?_
      refine JC.seq ?_
      refine JC.region ?_
      refine JL.pure rfl (PO.assign (v := .int .i64 (-1)) rfl) ?_
      refine JL.nil ?_
      refine JQ.seq ?_
      refine JC.ret ?_
      refine JQ.thenRet ?_
      refine Done.one (.inl rfl) rfl (RV.tmp (v := .int .i64 (-1)) rfl) (List.nil_sublist _) ?_
      exact ⟨(-1), (by simp only [szCallF, h_2, h_3, if_true, if_false, Bool.false_eq_true, Bool.not_true, Bool.not_false]; (repeat (first | rw [if_pos (by omega)] | rw [if_neg (by omega)])); all_goals (first | rfl | simp only [if_true, if_false, Bool.false_eq_true, Bool.not_true, Bool.not_false, h_2, h_3])), rfl, rfl⟩
    · skip
      refine JC.condF (congrArg Value.bool (decide_eq_false h_3)) ?_
      refine JC.skip ?_
      refine JQ.seq ?_
      refine JC.seq ?_
      refine JC.region ?_
      refine JL.pure rfl (PO.move (v := .int .i64 ((left - (c.name.length : Int)) - (c.to_.length : Int))) rfl) ?_
      refine JL.pure rfl (PO.fieldAddr fo148_5 rfl) ?_
      refine JL.ld rfl (LO.load1 0 (v := str c.text) rfl rfl Tryz.isAgg9 rfl) ?_
      refine JL.pure rfl (PO.lenS Tryz.underlying9 rfl) ?_
      refine JL.pure rfl (PO.sub (c := ((left - (c.name.length : Int)) - (c.to_.length : Int)) - (c.text.length : Int)) rfl rfl (wr (by omega))) ?_
      refine JL.pure rfl (PO.assign (v := .int .i64 (((left - (c.name.length : Int)) - (c.to_.length : Int)) - (c.text.length : Int))) rfl) ?_
      refine JL.nil ?_
      refine JQ.seq ?_
      refine JC.seq ?_
      refine JC.seq ?_
      refine JC.region ?_
      refine JL.pure rfl (PO.move (v := .int .i64 (((left - (c.name.length : Int)) - (c.to_.length : Int)) - (c.text.length : Int))) rfl) ?_
      refine JL.pure rfl (PO.lss rfl rfl) ?_
      refine JL.nil ?_
      refine JQ.seq ?_
      by_cases h_4 : (((left - (c.name.length : Int)) - (c.to_.length : Int)) - (c.text.length : Int)) < 0
      · skip
        refine JC.condT (congrArg Value.bool (decide_eq_true h_4)) ?_
        refine JC.seq ?_
        refine JC.region ?_
        refine JL.pure rfl (PO.assign (v := .int .i64 (-1)) rfl) ?_
        refine JL.nil ?_
        refine JQ.seq ?_
        refine JC.ret ?_
        refine JQ.thenRet ?_
        refine Done.one (.inl rfl) rfl (RV.tmp (v := .int .i64 (-1)) rfl) (List.nil_sublist _) ?_
        exact ⟨(-1), (by simp only [szCallF, h_2, h_3, h_4, if_true, if_false, Bool.false_eq_true, Bool.not_true, Bool.not_false]; (repeat (first | rw [if_pos (by omega)] | rw [if_neg (by omega)])); all_goals (first | rfl | simp only [if_true, if_false, Bool.false_eq_true, Bool.not_true, Bool.not_false, h_2, h_3, h_4])), rfl, rfl⟩
      · skip
        refine JC.condF (congrArg Value.bool (decide_eq_false h_4)) ?_
        refine JC.skip ?_
        refine JQ.seq ?_
        refine JC.seq ?_
        refine JC.region ?_
        refine JL.pure rfl (PO.move (v := .int .i64 (((left - (c.name.length : Int)) - (c.to_.length : Int)) - (c.text.length : Int))) rfl) ?_
        refine JL.pure rfl (PO.assign (v := .int .i64 (((left - (c.name.length : Int)) - (c.to_.length : Int)) - (c.text.length : Int))) rfl) ?_
        refine JL.nil ?_
        refine JQ.seq ?_
        refine JC.ret ?_
        refine Done.one (.inl rfl) rfl (RV.tmp (v := .int .i64 (((left - (c.name.length : Int)) - (c.to_.length : Int)) - (c.text.length : Int))) rfl) (List.nil_sublist _) ?_
        exact ⟨(((left - (c.name.length : Int)) - (c.to_.length : Int)) - (c.text.length : Int)), (by simp only [szCallF, h_2, h_3, h_4, if_true, if_false, Bool.false_eq_true, Bool.not_true, Bool.not_false]; (repeat (first | rw [if_pos (by omega)] | rw [if_neg (by omega)])); all_goals (first | rfl | simp only [if_true, if_false, Bool.false_eq_true, Bool.not_true, Bool.not_false, h_2, h_3, h_4])), rfl, rfl⟩

theorem N_toCall (c : CL) :
    Ct Tryz.prog 112 [.agg #[.int .i64 c.kind, str c.name, str c.to_, .int .i64 c.a, .int .i64 c.b, str c.text]] [] (fun _ => True) (fun v A' => v = .agg #[.int .i64 c.kind, str c.name, str c.to_, .int .i64 c.a, .int .i64 c.b, str c.text] ∧ A' = []) := by
  refine Ct.intro Tryz.func112 rfl Tryz.ntmps112 (Nat.le_of_ble_eq_true rfl) fun w0 hpre => ?_
  refine JC.seq ?_
  refine JC.region ?_
  refine JL.op rfl (JO.box (cs := [.int .i64 c.kind, str c.name, str c.to_, .int .i64 c.a, .int .i64 c.b, str c.text]) rfl rfl) ?_
  rintro _ _ ⟨b_1, rfl, rfl⟩
  refine JL.op rfl (JO.alloc (z := .agg #[.int .i64 0, str [], str [], .int .i64 0, .int .i64 0, str []]) (cs := [.int .i64 0, str [], str [], .int .i64 0, .int .i64 0, str []]) Tryz.zeroValue152 rfl) ?_
  rintro _ _ ⟨b_2, rfl, rfl⟩
  refine JL.nil ?_
  refine JQ.seq ?_
  refine JC.seq ?_
  refine JC.region ?_
  refine JL.op rfl (JO.alloc (z := .agg #[.int .i64 0, str [], str [], .int .i64 0, .int .i64 0, str []]) (cs := [.int .i64 0, str [], str [], .int .i64 0, .int .i64 0, str []]) Tryz.zeroValue152 rfl) ?_
  rintro _ _ ⟨b_3, rfl, rfl⟩
  refine JL.nil ?_
  refine JQ.seq ?_
  refine JC.seq ?_
  refine JC.region ?_
  refine JL.pure rfl (PO.fieldAddr fo148_0 rfl) ?_
  refine JL.ld rfl (LO.load1 2 (v := .int .i64 c.kind) rfl rfl Tryz.isAgg3 rfl) ?_
  refine JL.pure rfl (PO.fieldAddr fo152_0 rfl) ?_
  refine JL.op rfl (JO.store 0 (vs := [.int .i64 c.kind]) (cs' := [.int .i64 c.kind, str [], str [], .int .i64 0, .int .i64 0, str []]) rfl rfl rfl rfl Tryz.sizeOf3 rfl rfl (Nat.le_of_ble_eq_true rfl) rfl) ?_
  rintro _ _ rfl
  refine JL.nil ?_
  refine JQ.seq ?_
  refine JC.seq ?_
  refine JC.region ?_
  refine JL.pure rfl (PO.fieldAddr fo148_1 rfl) ?_
  refine JL.ld rfl (LO.load1 2 (v := str c.name) rfl rfl Tryz.isAgg9 rfl) ?_
  refine JL.pure rfl (PO.fieldAddr fo152_1 rfl) ?_
  refine JL.op rfl (JO.store 0 (vs := [str c.name]) (cs' := [.int .i64 c.kind, str c.name, str [], .int .i64 0, .int .i64 0, str []]) rfl rfl rfl rfl Tryz.sizeOf9 rfl rfl (Nat.le_of_ble_eq_true rfl) rfl) ?_
  rintro _ _ rfl
  refine JL.nil ?_
  refine JQ.seq ?_
  refine JC.seq ?_
  refine JC.region ?_
  refine JL.pure rfl (PO.fieldAddr fo148_2 rfl) ?_
  refine JL.ld rfl (LO.load1 2 (v := str c.to_) rfl rfl Tryz.isAgg9 rfl) ?_
  refine JL.pure rfl (PO.fieldAddr fo152_2 rfl) ?_
  refine JL.op rfl (JO.store 0 (vs := [str c.to_]) (cs' := [.int .i64 c.kind, str c.name, str c.to_, .int .i64 0, .int .i64 0, str []]) rfl rfl rfl rfl Tryz.sizeOf9 rfl rfl (Nat.le_of_ble_eq_true rfl) rfl) ?_
  rintro _ _ rfl
  refine JL.nil ?_
  refine JQ.seq ?_
  refine JC.seq ?_
  refine JC.region ?_
  refine JL.pure rfl (PO.fieldAddr fo148_3 rfl) ?_
  refine JL.ld rfl (LO.load1 2 (v := .int .i64 c.a) rfl rfl Tryz.isAgg3 rfl) ?_
  refine JL.pure rfl (PO.fieldAddr fo152_3 rfl) ?_
  refine JL.op rfl (JO.store 0 (vs := [.int .i64 c.a]) (cs' := [.int .i64 c.kind, str c.name, str c.to_, .int .i64 c.a, .int .i64 0, str []]) rfl rfl rfl rfl Tryz.sizeOf3 rfl rfl (Nat.le_of_ble_eq_true rfl) rfl) ?_
  rintro _ _ rfl
  refine JL.nil ?_
  refine JQ.seq ?_
  refine JC.seq ?_
  refine JC.region ?_
  refine JL.pure rfl (PO.fieldAddr fo148_4 rfl) ?_
  refine JL.ld rfl (LO.load1 2 (v := .int .i64 c.b) rfl rfl Tryz.isAgg3 rfl) ?_
  refine JL.pure rfl (PO.fieldAddr fo152_4 rfl) ?_
  refine JL.op rfl (JO.store 0 (vs := [.int .i64 c.b]) (cs' := [.int .i64 c.kind, str c.name, str c.to_, .int .i64 c.a, .int .i64 c.b, str []]) rfl rfl rfl rfl Tryz.sizeOf3 rfl rfl (Nat.le_of_ble_eq_true rfl) rfl) ?_
  rintro _ _ rfl
  refine JL.nil ?_
  refine JQ.seq ?_
  refine JC.seq ?_
  refine JC.region ?_
  refine JL.pure rfl (PO.fieldAddr fo148_5 rfl) ?_
  refine JL.ld rfl (LO.load1 2 (v := str c.text) rfl rfl Tryz.isAgg9 rfl) ?_
  refine JL.pure rfl (PO.fieldAddr fo152_5 rfl) ?_
  refine JL.op rfl (JO.store 0 (vs := [str c.text]) (cs' := [.int .i64 c.kind, str c.name, str c.to_, .int .i64 c.a, .int .i64 c.b, str c.text]) rfl rfl rfl rfl Tryz.sizeOf9 rfl rfl (Nat.le_of_ble_eq_true rfl) rfl) ?_
  rintro _ _ rfl
  refine JL.nil ?_
  refine JQ.seq ?_
  refine JC.seq ?_
  refine JC.region ?_
  refine JL.ld rfl (LO.loadK 0 (vs := [.int .i64 c.kind, str c.name, str c.to_, .int .i64 c.a, .int .i64 c.b, str c.text]) rfl rfl Tryz.isAgg152 Tryz.sizeOf152 rfl rfl) ?_
  refine JL.op rfl (JO.store 1 (vs := [.int .i64 c.kind, str c.name, str c.to_, .int .i64 c.a, .int .i64 c.b, str c.text]) (cs' := [.int .i64 c.kind, str c.name, str c.to_, .int .i64 c.a, .int .i64 c.b, str c.text]) rfl rfl rfl rfl Tryz.sizeOf152 rfl rfl (Nat.le_of_ble_eq_true rfl) rfl) ?_
  rintro _ _ rfl
  refine JL.nil ?_
  refine JQ.seq ?_
  refine JC.ret ?_
  refine Done.one (.inl rfl) rfl (RV.cell1 (LO.loadK 1 (vs := [.int .i64 c.kind, str c.name, str c.to_, .int .i64 c.a, .int .i64 c.b, str c.text]) rfl rfl Tryz.isAgg152 Tryz.sizeOf152 rfl rfl) ⟨_, rfl⟩) (List.nil_sublist _) ?_
  exact ⟨rfl, rfl⟩

end Go.Proofs.YtkmpmjficoohkaaGreat

set_option linter.unusedSimpArgs false
set_option linter.unusedVariables false
set_option linter.unnecessarySimpa false
namespace Go.Proofs.YtkmpmjficoohkaaGreat
open Go Go.RowKit
/-- A step: who, which call. -/
structure SP where
  proc : Int
  call : CL
def k0 : CL := ⟨0, [], [], 0, 0, []⟩
def a0_ : AN := ⟨0, 0, []⟩
def p0_ : SP := ⟨0, k0⟩
def encK (c : CL) : List Value := [.int .i64 c.kind, str c.name, str c.to_, .int .i64 c.a, .int .i64 c.b, str c.text]
def encA (a : AN) : List Value := [.int .i64 a.code, .int .i64 a.n, str a.text]
def encP (p : SP) : List Value := [.int .i64 p.proc, .int .i64 p.call.kind, str p.call.name, str p.call.to_, .int .i64 p.call.a, .int .i64 p.call.b, str p.call.text]
theorem encK_len (c : CL) : (encK c).length = 6 := rfl
theorem encA_len (a : AN) : (encA a).length = 3 := rfl
theorem encP_len (p : SP) : (encP p).length = 7 := rfl
section
variable {α : Type} {enc : α → List Value} {k : Nat}
theorem flat_one (h : ∀ x, ∀ u ∈ enc x, u.oneCell' = true) (l : List α) : ∀ u ∈ l.flatMap enc, u.oneCell' = true := fun u hu => by
  obtain ⟨c, _, hc⟩ := List.mem_flatMap.1 hu
  exact h c u hc
theorem flat_make (x : α) (m : Nat) : (List.replicate m (enc x)).flatten = (List.replicate m x).flatMap enc := by
  induction m with
  | zero => rfl
  | succ m ih => rw [List.replicate_succ, List.flatten_cons, ih, List.replicate_succ, List.flatMap_cons]
theorem flat_set1 (hk : ∀ x, (enc x).length = k) (d : α) {s : List α} {i f : Nat} {v : Value} {y : α} (h : i < s.length) (hf : f < k) (hy : (enc (s.getD i d)).set f v = enc y) :
    (s.flatMap enc).take (i * k + f) ++ [v] ++ (s.flatMap enc).drop (i * k + f + 1) = (s.set i y).flatMap enc := by
  have hl := flat_length hk s
  have hx : (s.flatMap enc) = (s.flatMap enc).take (i * k) ++ enc (s.getD i d) ++ (s.flatMap enc).drop (i * k + k) := by
    have h1 := flat_take hk d s i h
    have h2 : (s.flatMap enc) = (s.flatMap enc).take (i * k) ++ (s.flatMap enc).drop (i * k) := (List.take_append_drop _ _).symm
    have h3 : (s.flatMap enc).drop (i * k) = ((s.flatMap enc).drop (i * k)).take k ++ ((s.flatMap enc).drop (i * k)).drop k := (List.take_append_drop _ _).symm
    rw [h1, List.drop_drop] at h3
    rw [List.append_assoc, ← h3]
    exact h2
  have hle : i * k + k ≤ s.length * k := by
    have : (i + 1) * k ≤ s.length * k := Nat.mul_le_mul_right k h
    rwa [Nat.succ_mul] at this
  have hlen : ((s.flatMap enc).take (i * k)).length = i * k := by rw [List.length_take, hl]; omega
  have hset : (s.flatMap enc).set (i * k + f) v = (s.set i y).flatMap enc := by
    rw [← flat_set hk s i y h, ← hy]
    conv => lhs; rw [hx]
    rw [List.append_assoc, List.set_append_right _ _ (by omega), hlen, show i * k + f - i * k = f by omega, List.set_append_left _ _ (by rw [hk]; exact hf), List.append_assoc]
  rw [← hset, List.set_eq_take_append_cons_drop, if_pos (by rw [hl]; omega)]
  simp
theorem flat_set1s (hk : ∀ x, (enc x).length = k) (d : α) {s : List α} {i f : Nat} {v : Value} {x y : α} (h : i < s.length) (hf : f < k) (hy : (enc x).set f v = enc y) :
    ((s.set i x).flatMap enc).take (i * k + f) ++ [v] ++ ((s.set i x).flatMap enc).drop (i * k + f + 1) = (s.set i y).flatMap enc := by
  have hx : (s.set i x).getD i d = x := by rw [List.getD_eq_getElem?_getD, List.getElem?_set_self h]; rfl
  have := flat_set1 hk d (s := s.set i x) (i := i) (f := f) (v := v) (y := y) (by rw [List.length_set]; exact h) hf (by rw [hx]; exact hy)
  rwa [List.set_set] at this
end
theorem oneK (l : List CL) : ∀ u ∈ l.flatMap encK, u.oneCell' = true := flat_one (fun c u hu => by
  simp only [encK, List.mem_cons, List.not_mem_nil, or_false] at hu
  rcases hu with rfl | rfl | rfl | rfl | rfl | rfl <;> rfl) l
theorem oneA (l : List AN) : ∀ u ∈ l.flatMap encA, u.oneCell' = true := flat_one (fun c u hu => by
  simp only [encA, List.mem_cons, List.not_mem_nil, or_false] at hu
  rcases hu with rfl | rfl | rfl <;> rfl) l
theorem oneP (l : List SP) : ∀ u ∈ l.flatMap encP, u.oneCell' = true := flat_one (fun c u hu => by
  simp only [encP, List.mem_cons, List.not_mem_nil, or_false] at hu
  rcases hu with rfl | rfl | rfl | rfl | rfl | rfl | rfl <;> rfl) l
/- measures, marks, equality -/
def szL {α : Type} (f : α → Int → Int) : List α → Int → Int
  | [], l => l
  | x :: s, l => if f x l < 0 then -1 else szL f s (f x l)
def szLS {α : Type} (f : α → Int → Int) (s : List α) (l : Int) : Int := if l - s.length < 0 then -1 else szL f s (l - s.length)
def szAnsF (a : AN) (l : Int) : Int := if l - (a.text.length : Int) < 0 then -1 else l - (a.text.length : Int)
def szStepF (p : SP) (l : Int) : Int := if szCallF p.call l < 0 then -1 else szCallF p.call l
theorem szL_step {α : Type} {f : α → Int → Int} {s : List α} {j : Nat} (d : α) (h : j < s.length) (l : Int) : szL f (s.drop j) l = if f (s.getD j d) l < 0 then -1 else szL f (s.drop (j + 1)) (f (s.getD j d) l) := by
  rw [drop_at (getD_some (d := d) h), szL]
theorem szCallF_le (c : CL) (l : Int) (h : 0 ≤ l) : szCallF c l ≤ l ∧ -1 ≤ szCallF c l := by
  unfold szCallF
  split
  · omega
  · split
    · omega
    · split <;> omega
theorem szAnsF_le (a : AN) (l : Int) (h : 0 ≤ l) : szAnsF a l ≤ l ∧ -1 ≤ szAnsF a l := by
  unfold szAnsF
  split <;> omega
theorem szStepF_le (p : SP) (l : Int) (h : 0 ≤ l) : szStepF p l ≤ l ∧ -1 ≤ szStepF p l := by
  have := szCallF_le p.call l h
  unfold szStepF
  split <;> omega
theorem szL_le {α : Type} {f : α → Int → Int} (hf : ∀ x l, 0 ≤ l → f x l ≤ l ∧ -1 ≤ f x l) : ∀ (s : List α) (l : Int), 0 ≤ l → szL f s l ≤ l ∧ -1 ≤ szL f s l
  | [], l, h => by simp only [szL]; omega
  | x :: s, l, h => by
    have h1 := hf x l h
    unfold szL
    split
    · omega
    · have := szL_le hf s (f x l) (by omega)
      omega
theorem szLS_le {α : Type} {f : α → Int → Int} (hf : ∀ x l, 0 ≤ l → f x l ≤ l ∧ -1 ≤ f x l) (s : List α) (l : Int) (h : 0 ≤ l) : szLS f s l ≤ l ∧ -1 ≤ szLS f s l := by
  unfold szLS
  split
  · omega
  · have := szL_le hf s (l - s.length) (by omega)
    omega
theorem szL_mem {α : Type} {f : α → Int → Int} (hf : ∀ x l, 0 ≤ l → f x l ≤ l ∧ -1 ≤ f x l) : ∀ (s : List α) (l : Int), ¬ szL f s l < 0 → 0 ≤ l → ∀ c ∈ s, ∃ q, 0 ≤ q ∧ q ≤ l ∧ ¬ f c q < 0
  | [], l, _, _, c, hc => by simp at hc
  | d :: s, l, h, h0, c, hc => by
    unfold szL at h
    split at h
    · omega
    · rename_i hd
      have h1 := hf d l h0
      simp only [List.mem_cons] at hc
      rcases hc with rfl | hc
      · exact ⟨l, h0, by omega, hd⟩
      · obtain ⟨q, h2, h3, h4⟩ := szL_mem hf s _ h (by omega) c hc
        exact ⟨q, h2, by omega, h4⟩
theorem szLS_mem {α : Type} {f : α → Int → Int} (hf : ∀ x l, 0 ≤ l → f x l ≤ l ∧ -1 ≤ f x l) {s : List α} {l : Int} (h : ¬ szLS f s l < 0) : (s.length : Int) ≤ l ∧ ∀ c ∈ s, ∃ q, 0 ≤ q ∧ q ≤ l ∧ ¬ f c q < 0 := by
  unfold szLS at h
  split at h
  · omega
  · refine ⟨by omega, fun c hc => ?_⟩
    obtain ⟨q, h1, h2, h3⟩ := szL_mem hf s _ h (by omega) c hc
    exact ⟨q, h1, by omega, h3⟩
def markG {α : Type} (mk : Nat → α) (m : Nat) : List α → Nat → List α
  | [], _ => []
  | _ :: l, k => mk k :: markG mk m l (k + m)
theorem markG_len {α : Type} (mk : Nat → α) (m : Nat) : ∀ (l : List α) (k : Nat), (markG mk m l k).length = l.length
  | [], _ => rfl
  | _ :: l, k => by simp [markG, markG_len mk m l]
theorem markG_get {α : Type} (mk : Nat → α) (m : Nat) (d : α) : ∀ (l : List α) (k j : Nat), j < l.length → (markG mk m l k).getD j d = mk (k + m * j)
  | [], k, j, h => by simp at h
  | x :: l, k, 0, _ => by simp [markG]
  | x :: l, k, j + 1, h => by
    have := markG_get mk m d l (k + m) j (by simpa using h)
    simp only [markG, List.getD_cons_succ, this]
    congr 1
    rw [Nat.mul_add]
    omega
theorem markG_step {α : Type} (mk : Nat → α) (m : Nat) {l : List α} {k j : Nat} (h : j < l.length) : ((markG mk m l k).take j ++ l.drop j).set j (mk (k + m * j)) = (markG mk m l k).take (j + 1) ++ l.drop (j + 1) := by
  have hj : ((markG mk m l k).take j).length = j := by rw [List.length_take, markG_len]; omega
  rw [List.set_append_right _ _ (by omega), hj, Nat.sub_self, List.drop_eq_getElem_cons h, List.set_cons_zero, List.take_add_one]
  have hg : (markG mk m l k)[j]? = some (mk (k + m * j)) := by
    rw [← markG_get mk m (mk 0) l k j h]
    exact getD_some (by rw [markG_len]; exact h)
  rw [hg]
  simp
theorem markG_lenj {α : Type} (mk : Nat → α) (m : Nat) {l : List α} {k j : Nat} (h : j ≤ l.length) : ((markG mk m l k).take j ++ l.drop j).length = l.length := by
  rw [List.length_append, List.length_take, markG_len, List.length_drop]; omega
def mkK (k : Nat) : CL := ⟨((k : Nat) : Int), mt (k + 1), mt (k + 2), ((k + 3 : Nat) : Int), ((k + 4 : Nat) : Int), mt (k + 5)⟩
def mkA (k : Nat) : AN := ⟨((k : Nat) : Int), ((k + 1 : Nat) : Int), mt (k + 2)⟩
def mkP (k : Nat) : SP := ⟨((k : Nat) : Int), mkK (k + 1)⟩
instance decCL : DecidableEq CL := fun a b => decidable_of_iff (a.kind = b.kind ∧ a.name = b.name ∧ a.to_ = b.to_ ∧ a.a = b.a ∧ a.b = b.b ∧ a.text = b.text) (by cases a; cases b; simp)
instance decAN : DecidableEq AN := fun a b => decidable_of_iff (a.code = b.code ∧ a.n = b.n ∧ a.text = b.text) (by cases a; cases b; simp)
instance decSP : DecidableEq SP := fun a b => decidable_of_iff (a.proc = b.proc ∧ a.call = b.call) (by cases a; cases b; simp)
end Go.Proofs.YtkmpmjficoohkaaGreat

set_option linter.unusedSimpArgs false
set_option linter.unusedVariables false
set_option linter.unnecessarySimpa false
namespace Go.Proofs.YtkmpmjficoohkaaGreat
open Go Go.RowKit
theorem flatK (m : Nat) : (List.replicate m [Value.int .i64 0, str [], str [], .int .i64 0, .int .i64 0, str []]).flatten = (List.replicate m k0).flatMap encK := flat_make (enc := encK) k0 m
theorem flatA (m : Nat) : (List.replicate m [Value.int .i64 0, .int .i64 0, str []]).flatten = (List.replicate m a0_).flatMap encA := flat_make (enc := encA) a0_ m
theorem flatP (m : Nat) : (List.replicate m [Value.int .i64 0, .int .i64 0, str [], str [], .int .i64 0, .int .i64 0, str []]).flatten = (List.replicate m p0_).flatMap encP := flat_make (enc := encP) p0_ m
attribute [local irreducible] JL JC JQ JO LO PO JA JX Ct

theorem C_szAnswer (a : AN) (l : Int) (h0 : 0 ≤ l) (h1 : l ≤ 1048576) (ha : a.text.length ≤ 9223372036854775807) :
    Ct Tryz.prog 111 [.agg #[.int .i64 a.code, .int .i64 a.n, str a.text], .int .i64 l] [] (fun _ => True) (fun r A' => r = .int .i64 (szAnsF a l) ∧ A' = []) := by
  refine Ct.intro Tryz.func111 rfl Tryz.ntmps111 (Nat.le_of_ble_eq_true rfl) fun w0 hpre => ?_
  refine JC.seq ?_
  refine JC.region ?_
  refine JL.op rfl (JO.box (cs := [.int .i64 a.code, .int .i64 a.n, str a.text]) rfl rfl) ?_
  rintro _ _ ⟨b_1, rfl, rfl⟩
  refine JL.pure rfl (PO.assign (v := .int .i64 0) rfl) ?_
  refine JL.nil ?_
  refine JQ.seq ?_
  refine JC.seq ?_
  refine JC.region ?_
  refine JL.pure rfl (PO.move (v := .int .i64 l) rfl) ?_
  refine JL.pure rfl (PO.fieldAddr fo151_2 rfl) ?_
  refine JL.ld rfl (LO.load1 0 (v := str a.text) rfl rfl Tryz.isAgg9 rfl) ?_
  refine JL.pure rfl (PO.lenS Tryz.underlying9 rfl) ?_
  refine JL.pure rfl (PO.sub (c := l - (a.text.length : Int)) rfl rfl (wr (by omega))) ?_
  refine JL.pure rfl (PO.assign (v := .int .i64 (l - (a.text.length : Int))) rfl) ?_
  refine JL.nil ?_
  refine JQ.seq ?_
  refine JC.seq ?_
  refine JC.seq ?_
  refine JC.region ?_
  refine JL.pure rfl (PO.move (v := .int .i64 (l - (a.text.length : Int))) rfl) ?_
  refine JL.pure rfl (PO.lss rfl rfl) ?_
  refine JL.nil ?_
  refine JQ.seq ?_
  by_cases h_2 : (l - (a.text.length : Int)) < 0
  · skip
    refine JC.condT (congrArg Value.bool (decide_eq_true h_2)) ?_
    refine JC.seq ?_
    refine JC.region ?_
    refine JL.pure rfl (PO.assign (v := .int .i64 (-1)) rfl) ?_
    refine JL.nil ?_
    refine JQ.seq ?_
    refine JC.ret ?_
    refine JQ.thenRet ?_
    refine Done.one (.inl rfl) rfl (RV.tmp (v := .int .i64 (-1)) rfl) (List.nil_sublist _) ?_
    refine ⟨congrArg (Value.int .i64) ?_, rfl⟩
    unfold szAnsF
    first | rw [if_pos (by omega)] | rw [if_neg (by omega)]
  · skip
    refine JC.condF (congrArg Value.bool (decide_eq_false h_2)) ?_
    refine JC.skip ?_
    refine JQ.seq ?_
    refine JC.seq ?_
    refine JC.region ?_
    refine JL.pure rfl (PO.move (v := .int .i64 (l - (a.text.length : Int))) rfl) ?_
    refine JL.pure rfl (PO.assign (v := .int .i64 (l - (a.text.length : Int))) rfl) ?_
    refine JL.nil ?_
    refine JQ.seq ?_
    refine JC.ret ?_
    refine Done.one (.inl rfl) rfl (RV.tmp (v := .int .i64 (l - (a.text.length : Int))) rfl) (List.nil_sublist _) ?_
    refine ⟨congrArg (Value.int .i64) ?_, rfl⟩
    unfold szAnsF
    first | rw [if_pos (by omega)] | rw [if_neg (by omega)]

theorem C_szStep (p : SP) (l : Int) (h0 : 0 ≤ l) (h1 : l ≤ 1048576) (hp : p.call.ok 9223372036854775807) :
    Ct Tryz.prog 152 [.agg #[.int .i64 p.proc, .int .i64 p.call.kind, str p.call.name, str p.call.to_, .int .i64 p.call.a, .int .i64 p.call.b, str p.call.text], .int .i64 l] [] (fun _ => True) (fun r A' => r = .int .i64 (szStepF p l) ∧ A' = []) := by
  refine Ct.intro Tryz.func152 rfl Tryz.ntmps152 (Nat.le_of_ble_eq_true rfl) fun w0 hpre => ?_
  refine JC.seq ?_
  refine JC.region ?_
  refine JL.op rfl (JO.box (cs := [.int .i64 p.proc, .int .i64 p.call.kind, str p.call.name, str p.call.to_, .int .i64 p.call.a, .int .i64 p.call.b, str p.call.text]) rfl rfl) ?_
  rintro _ _ ⟨b_1, rfl, rfl⟩
  refine JL.pure rfl (PO.assign (v := .int .i64 0) rfl) ?_
  refine JL.nil ?_
  refine JQ.seq ?_
  refine JC.seq ?_
  refine JC.region ?_
  refine JL.pure rfl (PO.fieldAddr fo188_1 rfl) ?_
  refine JL.ld rfl (LO.loadK 0 (vs := [.int .i64 p.call.kind, str p.call.name, str p.call.to_, .int .i64 p.call.a, .int .i64 p.call.b, str p.call.text]) rfl rfl Tryz.isAgg148 Tryz.sizeOf148 rfl rfl) ?_
  refine JL.pure rfl (PO.move (v := .int .i64 l) rfl) ?_
  refine JL.op rfl (JO.call [] Tryz.call110 rfl (N_szCall p.call l hp (by omega) (by omega)) rfl (fun _ _ => trivial)) ?_
  rintro _ _ ⟨_, ⟨_, rfl, rfl, rfl⟩, rfl⟩
  refine JL.pure rfl (PO.assign (v := .int .i64 (szCallF p.call l)) rfl) ?_
  refine JL.nil ?_
  refine JQ.seq ?_
  refine JC.seq ?_
  refine JC.seq ?_
  refine JC.region ?_
  refine JL.pure rfl (PO.move (v := .int .i64 (szCallF p.call l)) rfl) ?_
  refine JL.pure rfl (PO.lss rfl rfl) ?_
  refine JL.nil ?_
  refine JQ.seq ?_
  by_cases h_2 : (szCallF p.call l) < 0
  · skip
    refine JC.condT (congrArg Value.bool (decide_eq_true h_2)) ?_
    refine JC.seq ?_
    refine JC.region ?_
    refine JL.pure rfl (PO.assign (v := .int .i64 (-1)) rfl) ?_
    refine JL.nil ?_
    refine JQ.seq ?_
    refine JC.ret ?_
    refine JQ.thenRet ?_
    refine Done.one (.inl rfl) rfl (RV.tmp (v := .int .i64 (-1)) rfl) (List.nil_sublist _) ?_
    refine ⟨congrArg (Value.int .i64) ?_, rfl⟩
    unfold szStepF
    first | rw [if_pos (by omega)] | rw [if_neg (by omega)]
  · skip
    refine JC.condF (congrArg Value.bool (decide_eq_false h_2)) ?_
    refine JC.skip ?_
    refine JQ.seq ?_
    refine JC.seq ?_
    refine JC.region ?_
    refine JL.pure rfl (PO.move (v := .int .i64 (szCallF p.call l)) rfl) ?_
    refine JL.pure rfl (PO.assign (v := .int .i64 (szCallF p.call l)) rfl) ?_
    refine JL.nil ?_
    refine JQ.seq ?_
    refine JC.ret ?_
    refine Done.one (.inl rfl) rfl (RV.tmp (v := .int .i64 (szCallF p.call l)) rfl) (List.nil_sublist _) ?_
    refine ⟨congrArg (Value.int .i64) ?_, rfl⟩
    unfold szStepF
    first | rw [if_pos (by omega)] | rw [if_neg (by omega)]

theorem C_eqCall (a b : CL) :
    Ct Tryz.prog 120 [.agg #[.int .i64 a.kind, str a.name, str a.to_, .int .i64 a.a, .int .i64 a.b, str a.text], .agg #[.int .i64 b.kind, str b.name, str b.to_, .int .i64 b.a, .int .i64 b.b, str b.text]] [] (fun _ => True) (fun v A' => v = .bool (decide (a = b)) ∧ A' = []) := by
  refine Ct.intro Tryz.func120 rfl Tryz.ntmps120 (Nat.le_of_ble_eq_true rfl) fun w0 hpre => ?_
  refine JC.seq ?_
  refine JC.region ?_
  refine JL.op rfl (JO.box (cs := [.int .i64 a.kind, str a.name, str a.to_, .int .i64 a.a, .int .i64 a.b, str a.text]) rfl rfl) ?_
  rintro _ _ ⟨b_1, rfl, rfl⟩
  refine JL.op rfl (JO.box (cs := [.int .i64 b.kind, str b.name, str b.to_, .int .i64 b.a, .int .i64 b.b, str b.text]) rfl rfl) ?_
  rintro _ _ ⟨b_2, rfl, rfl⟩
  refine JL.pure rfl (PO.assign (v := .bool false) rfl) ?_
  refine JL.nil ?_
  refine JQ.seq ?_
  refine JC.seq ?_
  refine JC.seq ?_
  refine JC.region ?_
  refine JL.pure rfl (PO.fieldAddr fo152_0 rfl) ?_
  refine JL.ld rfl (LO.load1 1 (v := .int .i64 a.kind) rfl rfl Tryz.isAgg3 rfl) ?_
  refine JL.pure rfl (PO.fieldAddr fo152_0 rfl) ?_
  refine JL.ld rfl (LO.load1 0 (v := .int .i64 b.kind) rfl rfl Tryz.isAgg3 rfl) ?_
  refine JL.pure rfl (PO.neqI rfl rfl) ?_
  refine JL.nil ?_
  refine JQ.seq ?_
  by_cases h_3 : a.kind = b.kind
  · skip
    refine JC.condF (congrArg Value.bool (congrArg Bool.not (decide_eq_true h_3))) ?_
    refine JC.skip ?_
    refine JQ.seq ?_
    refine JC.seq ?_
    refine JC.seq ?_
    refine JC.region ?_
    refine JL.pure rfl (PO.fieldAddr fo152_1 rfl) ?_
    refine JL.ld rfl (LO.load1 1 (v := str a.name) rfl rfl Tryz.isAgg9 rfl) ?_
    refine JL.pure rfl (PO.fieldAddr fo152_1 rfl) ?_
    refine JL.ld rfl (LO.load1 0 (v := str b.name) rfl rfl Tryz.isAgg9 rfl) ?_
    refine JL.pure rfl (PO.neqS rfl rfl) ?_
    refine JL.nil ?_
    refine JQ.seq ?_
    by_cases h_4 : a.name = b.name
    · skip
      refine JC.condF (congrArg Value.bool (congrArg Bool.not (decide_eq_true h_4))) ?_
      refine JC.skip ?_
      refine JQ.seq ?_
      refine JC.seq ?_
      refine JC.seq ?_
      refine JC.region ?_
      refine JL.pure rfl (PO.fieldAddr fo152_2 rfl) ?_
      refine JL.ld rfl (LO.load1 1 (v := str a.to_) rfl rfl Tryz.isAgg9 rfl) ?_
      refine JL.pure rfl (PO.fieldAddr fo152_2 rfl) ?_
      refine JL.ld rfl (LO.load1 0 (v := str b.to_) rfl rfl Tryz.isAgg9 rfl) ?_
      refine JL.pure rfl (PO.neqS rfl rfl) ?_
      refine JL.nil ?_
      refine JQ.seq ?_
      by_cases h_5 : a.to_ = b.to_
      · skip
        refine JC.condF (congrArg Value.bool (congrArg Bool.not (decide_eq_true h_5))) ?_
        refine JC.skip ?_
        refine JQ.seq ?_
        refine JC.seq ?_
        refine JC.seq ?_
        refine JC.region ?_
        refine JL.pure rfl (PO.fieldAddr fo152_3 rfl) ?_
        refine JL.ld rfl (LO.load1 1 (v := .int .i64 a.a) rfl rfl Tryz.isAgg3 rfl) ?_
        refine JL.pure rfl (PO.fieldAddr fo152_3 rfl) ?_
        refine JL.ld rfl (LO.load1 0 (v := .int .i64 b.a) rfl rfl Tryz.isAgg3 rfl) ?_
        refine JL.pure rfl (PO.neqI rfl rfl) ?_
        refine JL.nil ?_
        refine JQ.seq ?_
        by_cases h_6 : a.a = b.a
        · skip
          refine JC.condF (congrArg Value.bool (congrArg Bool.not (decide_eq_true h_6))) ?_
          refine JC.skip ?_
          refine JQ.seq ?_
          refine JC.seq ?_
          refine JC.seq ?_
          refine JC.region ?_
          refine JL.pure rfl (PO.fieldAddr fo152_4 rfl) ?_
          refine JL.ld rfl (LO.load1 1 (v := .int .i64 a.b) rfl rfl Tryz.isAgg3 rfl) ?_
          refine JL.pure rfl (PO.fieldAddr fo152_4 rfl) ?_
          refine JL.ld rfl (LO.load1 0 (v := .int .i64 b.b) rfl rfl Tryz.isAgg3 rfl) ?_
          refine JL.pure rfl (PO.neqI rfl rfl) ?_
          refine JL.nil ?_
          refine JQ.seq ?_
          by_cases h_7 : a.b = b.b
          · skip
            refine JC.condF (congrArg Value.bool (congrArg Bool.not (decide_eq_true h_7))) ?_
            refine JC.skip ?_
            refine JQ.seq ?_
            refine JC.seq ?_
            refine JC.seq ?_
            refine JC.region ?_
            refine JL.pure rfl (PO.fieldAddr fo152_5 rfl) ?_
            refine JL.ld rfl (LO.load1 1 (v := str a.text) rfl rfl Tryz.isAgg9 rfl) ?_
            refine JL.pure rfl (PO.fieldAddr fo152_5 rfl) ?_
            refine JL.ld rfl (LO.load1 0 (v := str b.text) rfl rfl Tryz.isAgg9 rfl) ?_
            refine JL.pure rfl (PO.neqS rfl rfl) ?_
            refine JL.nil ?_
            refine JQ.seq ?_
            by_cases h_8 : a.text = b.text
            · skip
              refine JC.condF (congrArg Value.bool (congrArg Bool.not (decide_eq_true h_8))) ?_
              refine JC.skip ?_
              refine JQ.seq ?_
              refine JC.seq ?_
              refine JC.region ?_
              refine JL.pure rfl (PO.assign (v := .bool true) rfl) ?_
              refine JL.nil ?_
              refine JQ.seq ?_
              refine JC.ret ?_
              refine Done.one (.inl rfl) rfl (RV.tmp (v := .bool true) rfl) (List.nil_sublist _) ?_
              refine ⟨congrArg Value.bool ?_, rfl⟩
              exact (decide_eq_true (by cases a; cases b; simp_all)).symm
            · skip
              refine JC.condT (congrArg Value.bool (congrArg Bool.not (decide_eq_false h_8))) ?_
              refine JC.seq ?_
              refine JC.region ?_
              refine JL.pure rfl (PO.assign (v := .bool false) rfl) ?_
              refine JL.nil ?_
              refine JQ.seq ?_
              refine JC.ret ?_
              refine JQ.thenRet ?_
              refine Done.one (.inl rfl) rfl (RV.tmp (v := .bool false) rfl) (List.nil_sublist _) ?_
              refine ⟨congrArg Value.bool ?_, rfl⟩
              exact (decide_eq_false (fun h_ => by subst h_; simp_all)).symm
          · skip
            refine JC.condT (congrArg Value.bool (congrArg Bool.not (decide_eq_false h_7))) ?_
            refine JC.seq ?_
            refine JC.region ?_
            refine JL.pure rfl (PO.assign (v := .bool false) rfl) ?_
            refine JL.nil ?_
            refine JQ.seq ?_
            refine JC.ret ?_
            refine JQ.thenRet ?_
            refine Done.one (.inl rfl) rfl (RV.tmp (v := .bool false) rfl) (List.nil_sublist _) ?_
            refine ⟨congrArg Value.bool ?_, rfl⟩
            exact (decide_eq_false (fun h_ => by subst h_; simp_all)).symm
        · skip
          refine JC.condT (congrArg Value.bool (congrArg Bool.not (decide_eq_false h_6))) ?_
          refine JC.seq ?_
          refine JC.region ?_
          refine JL.pure rfl (PO.assign (v := .bool false) rfl) ?_
          refine JL.nil ?_
          refine JQ.seq ?_
          refine JC.ret ?_
          refine JQ.thenRet ?_
          refine Done.one (.inl rfl) rfl (RV.tmp (v := .bool false) rfl) (List.nil_sublist _) ?_
          refine ⟨congrArg Value.bool ?_, rfl⟩
          exact (decide_eq_false (fun h_ => by subst h_; simp_all)).symm
      · skip
        refine JC.condT (congrArg Value.bool (congrArg Bool.not (decide_eq_false h_5))) ?_
        refine JC.seq ?_
        refine JC.region ?_
        refine JL.pure rfl (PO.assign (v := .bool false) rfl) ?_
        refine JL.nil ?_
        refine JQ.seq ?_
        refine JC.ret ?_
        refine JQ.thenRet ?_
        refine Done.one (.inl rfl) rfl (RV.tmp (v := .bool false) rfl) (List.nil_sublist _) ?_
        refine ⟨congrArg Value.bool ?_, rfl⟩
        exact (decide_eq_false (fun h_ => by subst h_; simp_all)).symm
    · skip
      refine JC.condT (congrArg Value.bool (congrArg Bool.not (decide_eq_false h_4))) ?_
      refine JC.seq ?_
      refine JC.region ?_
      refine JL.pure rfl (PO.assign (v := .bool false) rfl) ?_
      refine JL.nil ?_
      refine JQ.seq ?_
      refine JC.ret ?_
      refine JQ.thenRet ?_
      refine Done.one (.inl rfl) rfl (RV.tmp (v := .bool false) rfl) (List.nil_sublist _) ?_
      refine ⟨congrArg Value.bool ?_, rfl⟩
      exact (decide_eq_false (fun h_ => by subst h_; simp_all)).symm
  · skip
    refine JC.condT (congrArg Value.bool (congrArg Bool.not (decide_eq_false h_3))) ?_
    refine JC.seq ?_
    refine JC.region ?_
    refine JL.pure rfl (PO.assign (v := .bool false) rfl) ?_
    refine JL.nil ?_
    refine JQ.seq ?_
    refine JC.ret ?_
    refine JQ.thenRet ?_
    refine Done.one (.inl rfl) rfl (RV.tmp (v := .bool false) rfl) (List.nil_sublist _) ?_
    refine ⟨congrArg Value.bool ?_, rfl⟩
    exact (decide_eq_false (fun h_ => by subst h_; simp_all)).symm

theorem C_eqCallS (a b : Option Addr) (c c' : Nat) (s t : List CL) (hn : s.length ≤ 9223372036854775807) :
    Ct Tryz.prog 66 [.slice a s.length c, .slice b t.length c'] [] (fun w => Sees w (.slice a s.length c) 6 s.length (s.flatMap encK) ∧ Sees w (.slice b t.length c') 6 t.length (t.flatMap encK)) (fun r A' => r = .bool (decide (s = t)) ∧ A' = []) := by
  refine Ct.intro Tryz.func66 rfl Tryz.ntmps66 (Nat.le_of_ble_eq_true rfl) fun w0 hpre => ?_
  have hs_a : Sees w0 _ _ _ _ := hpre.1
  have hs_b : Sees w0 _ _ _ _ := hpre.2
  refine JC.seq ?_
  refine JC.region ?_
  refine JL.pure rfl (PO.assign (v := .bool false) rfl) ?_
  refine JL.nil ?_
  refine JQ.seq ?_
  refine JC.seq ?_
  refine JC.seq ?_
  refine JC.region ?_
  refine JL.pure rfl (PO.move (v := .slice a s.length c) rfl) ?_
  refine JL.pure rfl (PO.lenV Tryz.underlying57 rfl) ?_
  refine JL.pure rfl (PO.move (v := .slice b t.length c') rfl) ?_
  refine JL.pure rfl (PO.lenV Tryz.underlying57 rfl) ?_
  refine JL.pure rfl (PO.neqI rfl rfl) ?_
  refine JL.nil ?_
  refine JQ.seq ?_
  by_cases h_1 : ((s.length : Nat) : Int) = ((t.length : Nat) : Int)
  · skip
    have hlen := h_1
    refine JC.condF (congrArg Value.bool (congrArg Bool.not (decide_eq_true h_1))) ?_
    refine JC.skip ?_
    refine JQ.seq ?_
    refine JC.seq ?_
    refine JC.seq ?_
    refine JC.region ?_
    refine JL.pure rfl (PO.assign (v := .int .i64 0) rfl) ?_
    refine JL.nil ?_
    refine JQ.seq ?_
    refine JC.block ?_
    refine JC.loop (fun k_ e_ L_ => ∃ j : Nat, (j ≤ s.length) ∧ (s.take j = t.take j) ∧ (s.length = t.length) ∧ e_ 0 = .slice a s.length c ∧ e_ 1 = .slice b t.length c' ∧ e_ 5 = .int .i64 ((j : Nat) : Int) ∧ L_ = [] ∧ k_ = s.length - j) _ ⟨0, by omega, rfl, by omega, rfl, rfl, rfl, rfl, rfl⟩ ?_
    rintro _ e_2 _ ⟨j, hj, hE, hln, he_3, he_4, he_5, rfl, rfl⟩
    refine JC.seq ?_
    refine JC.seq ?_
    refine JC.region ?_
    refine JL.pure rfl (PO.move (v := .int .i64 ((j : Nat) : Int)) he_5) ?_
    refine JL.pure rfl (PO.move (v := .slice a s.length c) he_3) ?_
    refine JL.pure rfl (PO.lenV Tryz.underlying57 rfl) ?_
    refine JL.pure rfl (PO.lss rfl rfl) ?_
    refine JL.nil ?_
    refine JQ.seq ?_
    by_cases h_6 : ((j : Nat) : Int) < ((s.length : Nat) : Int)
    · skip
      have hlt : j < s.length := by omega
      refine JC.condT (congrArg Value.bool (decide_eq_true h_6)) ?_
      refine JC.skip ?_
      refine JQ.seq ?_
      refine JC.seq ?_
      refine JC.block ?_
      refine JC.seq ?_
      refine JC.regionA [] 1000 mixed (by simp) ?_
      refine JA.takeP 0 rfl (by kernel_rfl) (NP.th (NP.bl (NP.th (NP.th (NP.bl (NP.th NP.body)))))) (by kernel_rfl) (by kernel_rfl) rfl (PO.move (v := .slice a s.length c) he_3) ?_
      refine JA.takeP 1 rfl (by kernel_rfl) (NP.th (NP.bl (NP.th (NP.th (NP.bl (NP.th NP.body)))))) (by kernel_rfl) (by kernel_rfl) rfl (PO.move (v := .int .i64 ((j : Nat) : Int)) he_5) ?_
      obtain ⟨hr_7, hr_7b, -⟩ := sees_some hs_a (by omega)
      refine JA.takeP 2 rfl (by kernel_rfl) (NP.th (NP.bl (NP.th (NP.th (NP.bl (NP.th NP.body)))))) (by kernel_rfl) (by kernel_rfl) rfl (PO.indexAddrV (i := j) Tryz.underlying57 Tryz.sizeOf152 hr_7 hr_7b rfl rfl (by omega)) ?_
      refine JA.take 3 rfl (by kernel_rfl) (NP.th (NP.bl (NP.th (NP.th (NP.bl (NP.th NP.body)))))) (by kernel_rfl) (by kernel_rfl) (by kernel_rfl) rfl (LO.loadSK (vs := [.int .i64 ((s.getD j k0).kind), str ((s.getD j k0).name), str ((s.getD j k0).to_), .int .i64 ((s.getD j k0).a), .int .i64 ((s.getD j k0).b), str ((s.getD j k0).text)]) hs_a (fun _ _ => List.not_mem_nil) rfl Tryz.isAgg152 Tryz.sizeOf152 (flat_take encK_len k0 s j (by omega)) rfl (by decide)) ?_
      refine JA.takeP 4 rfl (by kernel_rfl) (NP.th (NP.bl (NP.th (NP.th (NP.bl (NP.th NP.body)))))) (by kernel_rfl) (by kernel_rfl) rfl (PO.move (v := .slice b t.length c') he_4) ?_
      refine JA.takeP 5 rfl (by kernel_rfl) (NP.th (NP.bl (NP.th (NP.th (NP.bl (NP.th NP.body)))))) (by kernel_rfl) (by kernel_rfl) rfl (PO.move (v := .int .i64 ((j : Nat) : Int)) he_5) ?_
      obtain ⟨hr_8, hr_8b, -⟩ := sees_some hs_b (by omega)
      refine JA.takeP 6 rfl (by kernel_rfl) (NP.th (NP.bl (NP.th (NP.th (NP.bl (NP.th NP.body)))))) (by kernel_rfl) (by kernel_rfl) rfl (PO.indexAddrV (i := j) Tryz.underlying57 Tryz.sizeOf152 hr_8 hr_8b rfl rfl (by omega)) ?_
      refine JA.take 7 rfl (by kernel_rfl) (NP.th (NP.bl (NP.th (NP.th (NP.bl (NP.th NP.body)))))) (by kernel_rfl) (by kernel_rfl) (by kernel_rfl) rfl (LO.loadSK (vs := [.int .i64 ((t.getD j k0).kind), str ((t.getD j k0).name), str ((t.getD j k0).to_), .int .i64 ((t.getD j k0).a), .int .i64 ((t.getD j k0).b), str ((t.getD j k0).text)]) hs_b (fun _ _ => List.not_mem_nil) rfl Tryz.isAgg152 Tryz.sizeOf152 (flat_take encK_len k0 t j (by omega)) rfl (by decide)) ?_
      refine JA.one (i := 8) (by kernel_rfl) ?_
      refine JX.op rfl rfl (JO.call [] Tryz.call120 rfl (C_eqCall (s.getD j k0) (t.getD j k0)) rfl (fun _ _ => trivial)) ?_
      rintro _ _ ⟨_, ⟨rfl, rfl⟩, rfl⟩
      refine ⟨(fun _ h => by cases h), ?_⟩
      refine JA.takeP 9 rfl (by kernel_rfl) (NP.th (NP.bl (NP.th (NP.th (NP.bl (NP.th NP.body)))))) (by kernel_rfl) (by kernel_rfl) rfl (PO.not rfl) ?_
      refine JA.done (by kernel_rfl) ?_
      refine JQ.seq ?_
      by_cases h_9 : (s.getD j k0) = (t.getD j k0)
      · skip
        have heq := h_9
        refine JC.condF (congrArg Value.bool (congrArg Bool.not (decide_eq_true h_9))) ?_
        refine JC.skip ?_
        refine JQ.blockN ?_
        refine JQ.seq ?_
        refine JC.region ?_
        refine JL.pure rfl (PO.move (v := .int .i64 ((j : Nat) : Int)) he_5) ?_
        refine JL.pure rfl (PO.add (c := ((j + 1 : Nat) : Int)) rfl rfl (wr (by omega))) ?_
        refine JL.pure rfl (PO.assign (v := .int .i64 ((j + 1 : Nat) : Int)) rfl) ?_
        refine JL.nil ?_
        refine JQ.again (s.length - (j + 1)) (by omega) ⟨j + 1, by omega, take_succ_eq k0 hE hlt hln heq, hln, he_3, he_4, rfl, rfl, rfl⟩
      · skip
        have hne := h_9
        refine JC.condT (congrArg Value.bool (congrArg Bool.not (decide_eq_false h_9))) ?_
        refine JC.seq ?_
        refine JC.region ?_
        refine JL.pure rfl (PO.assign (v := .bool false) rfl) ?_
        refine JL.nil ?_
        refine JQ.seq ?_
        refine JC.ret ?_
        refine JQ.blockRet ?_
        refine JQ.thenRet ?_
        refine JQ.thenRet ?_
        refine JQ.blockRet ?_
        refine JQ.thenRet ?_
        refine Done.one (.inl rfl) rfl (RV.tmp (v := .bool false) rfl) (List.nil_sublist _) ?_
        refine ⟨?_, rfl⟩
        rw [decide_eq_false (fun h => hne (by rw [h]))]
    · skip
      refine JC.condF (congrArg Value.bool (decide_eq_false h_6)) ?_
      refine JC.exit ?_
      refine JQ.thenExit ?_
      refine JQ.thenExit ?_
      refine JQ.blockE ?_
      refine JQ.seq ?_
      refine JC.seq ?_
      refine JC.region ?_
      refine JL.pure rfl (PO.assign (v := .bool true) rfl) ?_
      refine JL.nil ?_
      refine JQ.seq ?_
      refine JC.ret ?_
      refine Done.one (.inl rfl) rfl (RV.tmp (v := .bool true) rfl) (List.nil_sublist _) ?_
      refine ⟨?_, rfl⟩
      rw [decide_eq_true (take_all_eq hE (by omega) (by omega))]
  · skip
    have hlen := h_1
    refine JC.condT (congrArg Value.bool (congrArg Bool.not (decide_eq_false h_1))) ?_
    refine JC.seq ?_
    refine JC.region ?_
    refine JL.pure rfl (PO.assign (v := .bool false) rfl) ?_
    refine JL.nil ?_
    refine JQ.seq ?_
    refine JC.ret ?_
    refine JQ.thenRet ?_
    refine Done.one (.inl rfl) rfl (RV.tmp (v := .bool false) rfl) (List.nil_sublist _) ?_
    refine ⟨?_, rfl⟩
    rw [decide_eq_false (fun h => by rw [h] at hlen; omega)]

theorem C_markCallS (a : Option Addr) (c : Nat) (l : List CL) (k : Nat) (h0 : 0 < k) (h1 : k + 6 * l.length ≤ 100000000) :
    Ct Tryz.prog 70 [.slice a l.length c, .int .i64 ((k : Nat) : Int)] [Res.row (.slice a l.length c) 152 6 l.length (l.flatMap encK)] (fun _ => True) (fun v A' => v = .int .i64 ((k + 6 * l.length : Nat) : Int) ∧ A' = [.row (.slice a l.length c) 152 6 l.length ((markG mkK 6 l k).flatMap encK)]) := by
  refine Ct.intro Tryz.func70 rfl Tryz.ntmps70 (Nat.le_of_ble_eq_true rfl) fun w0 hpre => ?_
  refine JC.seq ?_
  refine JC.region ?_
  refine JL.pure rfl (PO.assign (v := .int .i64 0) rfl) ?_
  refine JL.nil ?_
  refine JQ.seq ?_
  refine JC.seq ?_
  refine JC.seq ?_
  refine JC.region ?_
  refine JL.pure rfl (PO.assign (v := .int .i64 0) rfl) ?_
  refine JL.nil ?_
  refine JQ.seq ?_
  refine JC.block ?_
  refine JC.loop (fun k_ e_ L_ => ∃ j : Nat, (j ≤ l.length) ∧ e_ 0 = .slice a l.length c ∧ e_ 1 = .int .i64 ((k + 6 * j : Nat) : Int) ∧ e_ 4 = .int .i64 0 ∧ e_ 5 = .int .i64 ((j : Nat) : Int) ∧ L_ = [Res.row (.slice a l.length c) 152 6 l.length (((markG mkK 6 l k).take j ++ l.drop j).flatMap encK)] ∧ k_ = l.length - j) _ ⟨0, by omega, rfl, rfl, rfl, rfl, rfl, rfl⟩ ?_
  rintro _ e_1 _ ⟨j, hj, he_2, he_3, he_4, he_5, rfl, rfl⟩
  refine JC.seq ?_
  refine JC.seq ?_
  refine JC.region ?_
  refine JL.pure rfl (PO.move (v := .int .i64 ((j : Nat) : Int)) he_5) ?_
  refine JL.pure rfl (PO.move (v := .slice a l.length c) he_2) ?_
  refine JL.pure rfl (PO.lenV Tryz.underlying57 rfl) ?_
  refine JL.pure rfl (PO.lss rfl rfl) ?_
  refine JL.nil ?_
  refine JQ.seq ?_
  by_cases h_6 : ((j : Nat) : Int) < ((l.length : Nat) : Int)
  · skip
    have hlt : j < l.length := by omega
    refine JC.condT (congrArg Value.bool (decide_eq_true h_6)) ?_
    refine JC.skip ?_
    refine JQ.seq ?_
    refine JC.seq ?_
    refine JC.block ?_
    refine JC.seq ?_
    refine JC.region ?_
    refine JL.pure rfl (PO.move (v := .slice a l.length c) he_2) ?_
    refine JL.pure rfl (PO.move (v := .int .i64 ((j : Nat) : Int)) he_5) ?_
    refine JL.pure rfl (PO.move (v := .int .i64 ((k + 6 * j : Nat) : Int)) he_3) ?_
    refine JL.facts fun hst => ?_
    obtain ⟨hr_7, hr_7b, -⟩ := row_some 0 rfl (by omega) hst
    refine JL.pure rfl (PO.indexAddrV (i := j) Tryz.underlying57 Tryz.sizeOf152 hr_7 hr_7b rfl rfl (by omega)) ?_
    refine JL.pure rfl (PO.fieldAddrE fo152_0 hr_7 rfl) ?_
    refine JL.op rfl (JO.storeR 0 (vs := [.int .i64 ((k + 6 * j : Nat) : Int)]) (cs' := (((markG mkK 6 l k).take j ++ l.drop j).set j (⟨((k + 6 * j : Nat) : Int), (((markG mkK 6 l k).take j ++ l.drop j).getD j k0).name, (((markG mkK 6 l k).take j ++ l.drop j).getD j k0).to_, (((markG mkK 6 l k).take j ++ l.drop j).getD j k0).a, (((markG mkK 6 l k).take j ++ l.drop j).getD j k0).b, (((markG mkK 6 l k).take j ++ l.drop j).getD j k0).text⟩ : CL)).flatMap encK) rfl rfl rfl rfl Tryz.sizeOf3 rfl rfl (by decide) (by rw [flat_length encK_len]; (try rw [List.length_set]); rw [markG_lenj mkK 6 hj]; omega) (flat_set1 encK_len k0 (f := 0) (y := (⟨((k + 6 * j : Nat) : Int), (((markG mkK 6 l k).take j ++ l.drop j).getD j k0).name, (((markG mkK 6 l k).take j ++ l.drop j).getD j k0).to_, (((markG mkK 6 l k).take j ++ l.drop j).getD j k0).a, (((markG mkK 6 l k).take j ++ l.drop j).getD j k0).b, (((markG mkK 6 l k).take j ++ l.drop j).getD j k0).text⟩ : CL)) (by rw [markG_lenj mkK 6 hj]; omega) (by decide) rfl)) ?_
    rintro _ _ rfl
    refine JL.nil ?_
    refine JQ.seq ?_
    refine JC.seq ?_
    refine JC.region ?_
    refine JL.pure rfl (PO.move (v := .int .i64 ((k + 6 * j : Nat) : Int)) he_3) ?_
    refine JL.pure rfl (PO.add (c := (((k + 6 * j) + 1 : Nat) : Int)) rfl rfl (wr (by omega))) ?_
    refine JL.pure rfl (PO.assign (v := .int .i64 (((k + 6 * j) + 1 : Nat) : Int)) rfl) ?_
    refine JL.nil ?_
    refine JQ.seq ?_
    refine JC.seq ?_
    refine JC.region ?_
    refine JL.pure rfl (PO.move (v := .slice a l.length c) he_2) ?_
    refine JL.pure rfl (PO.move (v := .int .i64 ((j : Nat) : Int)) he_5) ?_
    refine JL.pure rfl (PO.move (v := .int .i64 (((k + 6 * j) + 1 : Nat) : Int)) rfl) ?_
    refine JL.op rfl (JO.call [] Tryz.call102 rfl (C_markText ((k + 6 * j) + 1) (by omega) (by omega)) rfl (fun _ _ => trivial)) ?_
    rintro _ _ ⟨_, ⟨rfl, rfl⟩, rfl⟩
    refine JL.pure rfl (PO.indexAddrV (i := j) Tryz.underlying57 Tryz.sizeOf152 hr_7 hr_7b rfl rfl (by omega)) ?_
    refine JL.pure rfl (PO.fieldAddrE fo152_1 hr_7 rfl) ?_
    refine JL.op rfl (JO.storeR 0 (vs := [str (mt ((k + 6 * j) + 1))]) (cs' := (((markG mkK 6 l k).take j ++ l.drop j).set j (⟨((k + 6 * j : Nat) : Int), mt ((k + 6 * j) + 1), (((markG mkK 6 l k).take j ++ l.drop j).getD j k0).to_, (((markG mkK 6 l k).take j ++ l.drop j).getD j k0).a, (((markG mkK 6 l k).take j ++ l.drop j).getD j k0).b, (((markG mkK 6 l k).take j ++ l.drop j).getD j k0).text⟩ : CL)).flatMap encK) rfl rfl rfl rfl Tryz.sizeOf9 rfl rfl (by decide) (by rw [flat_length encK_len]; (try rw [List.length_set]); rw [markG_lenj mkK 6 hj]; omega) (flat_set1s encK_len k0 (f := 1) (x := (⟨((k + 6 * j : Nat) : Int), (((markG mkK 6 l k).take j ++ l.drop j).getD j k0).name, (((markG mkK 6 l k).take j ++ l.drop j).getD j k0).to_, (((markG mkK 6 l k).take j ++ l.drop j).getD j k0).a, (((markG mkK 6 l k).take j ++ l.drop j).getD j k0).b, (((markG mkK 6 l k).take j ++ l.drop j).getD j k0).text⟩ : CL)) (y := (⟨((k + 6 * j : Nat) : Int), mt ((k + 6 * j) + 1), (((markG mkK 6 l k).take j ++ l.drop j).getD j k0).to_, (((markG mkK 6 l k).take j ++ l.drop j).getD j k0).a, (((markG mkK 6 l k).take j ++ l.drop j).getD j k0).b, (((markG mkK 6 l k).take j ++ l.drop j).getD j k0).text⟩ : CL)) (by rw [markG_lenj mkK 6 hj]; omega) (by decide) rfl)) ?_
    rintro _ _ rfl
    refine JL.nil ?_
    refine JQ.seq ?_
    refine JC.seq ?_
    refine JC.region ?_
    refine JL.pure rfl (PO.move (v := .int .i64 (((k + 6 * j) + 1 : Nat) : Int)) rfl) ?_
    refine JL.pure rfl (PO.add (c := ((((k + 6 * j) + 1) + 1 : Nat) : Int)) rfl rfl (wr (by omega))) ?_
    refine JL.pure rfl (PO.assign (v := .int .i64 ((((k + 6 * j) + 1) + 1 : Nat) : Int)) rfl) ?_
    refine JL.nil ?_
    refine JQ.seq ?_
    refine JC.seq ?_
    refine JC.region ?_
    refine JL.pure rfl (PO.move (v := .slice a l.length c) he_2) ?_
    refine JL.pure rfl (PO.move (v := .int .i64 ((j : Nat) : Int)) he_5) ?_
    refine JL.pure rfl (PO.move (v := .int .i64 ((((k + 6 * j) + 1) + 1 : Nat) : Int)) rfl) ?_
    refine JL.op rfl (JO.call [] Tryz.call102 rfl (C_markText (((k + 6 * j) + 1) + 1) (by omega) (by omega)) rfl (fun _ _ => trivial)) ?_
    rintro _ _ ⟨_, ⟨rfl, rfl⟩, rfl⟩
    refine JL.pure rfl (PO.indexAddrV (i := j) Tryz.underlying57 Tryz.sizeOf152 hr_7 hr_7b rfl rfl (by omega)) ?_
    refine JL.pure rfl (PO.fieldAddrE fo152_2 hr_7 rfl) ?_
    refine JL.op rfl (JO.storeR 0 (vs := [str (mt (((k + 6 * j) + 1) + 1))]) (cs' := (((markG mkK 6 l k).take j ++ l.drop j).set j (⟨((k + 6 * j : Nat) : Int), mt ((k + 6 * j) + 1), mt (((k + 6 * j) + 1) + 1), (((markG mkK 6 l k).take j ++ l.drop j).getD j k0).a, (((markG mkK 6 l k).take j ++ l.drop j).getD j k0).b, (((markG mkK 6 l k).take j ++ l.drop j).getD j k0).text⟩ : CL)).flatMap encK) rfl rfl rfl rfl Tryz.sizeOf9 rfl rfl (by decide) (by rw [flat_length encK_len]; (try rw [List.length_set]); rw [markG_lenj mkK 6 hj]; omega) (flat_set1s encK_len k0 (f := 2) (x := (⟨((k + 6 * j : Nat) : Int), mt ((k + 6 * j) + 1), (((markG mkK 6 l k).take j ++ l.drop j).getD j k0).to_, (((markG mkK 6 l k).take j ++ l.drop j).getD j k0).a, (((markG mkK 6 l k).take j ++ l.drop j).getD j k0).b, (((markG mkK 6 l k).take j ++ l.drop j).getD j k0).text⟩ : CL)) (y := (⟨((k + 6 * j : Nat) : Int), mt ((k + 6 * j) + 1), mt (((k + 6 * j) + 1) + 1), (((markG mkK 6 l k).take j ++ l.drop j).getD j k0).a, (((markG mkK 6 l k).take j ++ l.drop j).getD j k0).b, (((markG mkK 6 l k).take j ++ l.drop j).getD j k0).text⟩ : CL)) (by rw [markG_lenj mkK 6 hj]; omega) (by decide) rfl)) ?_
    rintro _ _ rfl
    refine JL.nil ?_
    refine JQ.seq ?_
    refine JC.seq ?_
    refine JC.region ?_
    refine JL.pure rfl (PO.move (v := .int .i64 ((((k + 6 * j) + 1) + 1 : Nat) : Int)) rfl) ?_
    refine JL.pure rfl (PO.add (c := (((((k + 6 * j) + 1) + 1) + 1 : Nat) : Int)) rfl rfl (wr (by omega))) ?_
    refine JL.pure rfl (PO.assign (v := .int .i64 (((((k + 6 * j) + 1) + 1) + 1 : Nat) : Int)) rfl) ?_
    refine JL.nil ?_
    refine JQ.seq ?_
    refine JC.seq ?_
    refine JC.region ?_
    refine JL.pure rfl (PO.move (v := .slice a l.length c) he_2) ?_
    refine JL.pure rfl (PO.move (v := .int .i64 ((j : Nat) : Int)) he_5) ?_
    refine JL.pure rfl (PO.move (v := .int .i64 (((((k + 6 * j) + 1) + 1) + 1 : Nat) : Int)) rfl) ?_
    refine JL.pure rfl (PO.indexAddrV (i := j) Tryz.underlying57 Tryz.sizeOf152 hr_7 hr_7b rfl rfl (by omega)) ?_
    refine JL.pure rfl (PO.fieldAddrE fo152_3 hr_7 rfl) ?_
    refine JL.op rfl (JO.storeR 0 (vs := [.int .i64 (((((k + 6 * j) + 1) + 1) + 1 : Nat) : Int)]) (cs' := (((markG mkK 6 l k).take j ++ l.drop j).set j (⟨((k + 6 * j : Nat) : Int), mt ((k + 6 * j) + 1), mt (((k + 6 * j) + 1) + 1), (((((k + 6 * j) + 1) + 1) + 1 : Nat) : Int), (((markG mkK 6 l k).take j ++ l.drop j).getD j k0).b, (((markG mkK 6 l k).take j ++ l.drop j).getD j k0).text⟩ : CL)).flatMap encK) rfl rfl rfl rfl Tryz.sizeOf3 rfl rfl (by decide) (by rw [flat_length encK_len]; (try rw [List.length_set]); rw [markG_lenj mkK 6 hj]; omega) (flat_set1s encK_len k0 (f := 3) (x := (⟨((k + 6 * j : Nat) : Int), mt ((k + 6 * j) + 1), mt (((k + 6 * j) + 1) + 1), (((markG mkK 6 l k).take j ++ l.drop j).getD j k0).a, (((markG mkK 6 l k).take j ++ l.drop j).getD j k0).b, (((markG mkK 6 l k).take j ++ l.drop j).getD j k0).text⟩ : CL)) (y := (⟨((k + 6 * j : Nat) : Int), mt ((k + 6 * j) + 1), mt (((k + 6 * j) + 1) + 1), (((((k + 6 * j) + 1) + 1) + 1 : Nat) : Int), (((markG mkK 6 l k).take j ++ l.drop j).getD j k0).b, (((markG mkK 6 l k).take j ++ l.drop j).getD j k0).text⟩ : CL)) (by rw [markG_lenj mkK 6 hj]; omega) (by decide) rfl)) ?_
    rintro _ _ rfl
    refine JL.nil ?_
    refine JQ.seq ?_
    refine JC.seq ?_
    refine JC.region ?_
    refine JL.pure rfl (PO.move (v := .int .i64 (((((k + 6 * j) + 1) + 1) + 1 : Nat) : Int)) rfl) ?_
    refine JL.pure rfl (PO.add (c := ((((((k + 6 * j) + 1) + 1) + 1) + 1 : Nat) : Int)) rfl rfl (wr (by omega))) ?_
    refine JL.pure rfl (PO.assign (v := .int .i64 ((((((k + 6 * j) + 1) + 1) + 1) + 1 : Nat) : Int)) rfl) ?_
    refine JL.nil ?_
    refine JQ.seq ?_
    refine JC.seq ?_
    refine JC.region ?_
    refine JL.pure rfl (PO.move (v := .slice a l.length c) he_2) ?_
    refine JL.pure rfl (PO.move (v := .int .i64 ((j : Nat) : Int)) he_5) ?_
    refine JL.pure rfl (PO.move (v := .int .i64 ((((((k + 6 * j) + 1) + 1) + 1) + 1 : Nat) : Int)) rfl) ?_
    refine JL.pure rfl (PO.indexAddrV (i := j) Tryz.underlying57 Tryz.sizeOf152 hr_7 hr_7b rfl rfl (by omega)) ?_
    refine JL.pure rfl (PO.fieldAddrE fo152_4 hr_7 rfl) ?_
    refine JL.op rfl (JO.storeR 0 (vs := [.int .i64 ((((((k + 6 * j) + 1) + 1) + 1) + 1 : Nat) : Int)]) (cs' := (((markG mkK 6 l k).take j ++ l.drop j).set j (⟨((k + 6 * j : Nat) : Int), mt ((k + 6 * j) + 1), mt (((k + 6 * j) + 1) + 1), (((((k + 6 * j) + 1) + 1) + 1 : Nat) : Int), ((((((k + 6 * j) + 1) + 1) + 1) + 1 : Nat) : Int), (((markG mkK 6 l k).take j ++ l.drop j).getD j k0).text⟩ : CL)).flatMap encK) rfl rfl rfl rfl Tryz.sizeOf3 rfl rfl (by decide) (by rw [flat_length encK_len]; (try rw [List.length_set]); rw [markG_lenj mkK 6 hj]; omega) (flat_set1s encK_len k0 (f := 4) (x := (⟨((k + 6 * j : Nat) : Int), mt ((k + 6 * j) + 1), mt (((k + 6 * j) + 1) + 1), (((((k + 6 * j) + 1) + 1) + 1 : Nat) : Int), (((markG mkK 6 l k).take j ++ l.drop j).getD j k0).b, (((markG mkK 6 l k).take j ++ l.drop j).getD j k0).text⟩ : CL)) (y := (⟨((k + 6 * j : Nat) : Int), mt ((k + 6 * j) + 1), mt (((k + 6 * j) + 1) + 1), (((((k + 6 * j) + 1) + 1) + 1 : Nat) : Int), ((((((k + 6 * j) + 1) + 1) + 1) + 1 : Nat) : Int), (((markG mkK 6 l k).take j ++ l.drop j).getD j k0).text⟩ : CL)) (by rw [markG_lenj mkK 6 hj]; omega) (by decide) rfl)) ?_
    rintro _ _ rfl
    refine JL.nil ?_
    refine JQ.seq ?_
    refine JC.seq ?_
    refine JC.region ?_
    refine JL.pure rfl (PO.move (v := .int .i64 ((((((k + 6 * j) + 1) + 1) + 1) + 1 : Nat) : Int)) rfl) ?_
    refine JL.pure rfl (PO.add (c := (((((((k + 6 * j) + 1) + 1) + 1) + 1) + 1 : Nat) : Int)) rfl rfl (wr (by omega))) ?_
    refine JL.pure rfl (PO.assign (v := .int .i64 (((((((k + 6 * j) + 1) + 1) + 1) + 1) + 1 : Nat) : Int)) rfl) ?_
    refine JL.nil ?_
    refine JQ.seq ?_
    refine JC.seq ?_
    refine JC.region ?_
    refine JL.pure rfl (PO.move (v := .slice a l.length c) he_2) ?_
    refine JL.pure rfl (PO.move (v := .int .i64 ((j : Nat) : Int)) he_5) ?_
    refine JL.pure rfl (PO.move (v := .int .i64 (((((((k + 6 * j) + 1) + 1) + 1) + 1) + 1 : Nat) : Int)) rfl) ?_
    refine JL.op rfl (JO.call [] Tryz.call102 rfl (C_markText ((((((k + 6 * j) + 1) + 1) + 1) + 1) + 1) (by omega) (by omega)) rfl (fun _ _ => trivial)) ?_
    rintro _ _ ⟨_, ⟨rfl, rfl⟩, rfl⟩
    refine JL.pure rfl (PO.indexAddrV (i := j) Tryz.underlying57 Tryz.sizeOf152 hr_7 hr_7b rfl rfl (by omega)) ?_
    refine JL.pure rfl (PO.fieldAddrE fo152_5 hr_7 rfl) ?_
    refine JL.op rfl (JO.storeR 0 (vs := [str (mt ((((((k + 6 * j) + 1) + 1) + 1) + 1) + 1))]) (cs' := (((markG mkK 6 l k).take j ++ l.drop j).set j (⟨((k + 6 * j : Nat) : Int), mt ((k + 6 * j) + 1), mt (((k + 6 * j) + 1) + 1), (((((k + 6 * j) + 1) + 1) + 1 : Nat) : Int), ((((((k + 6 * j) + 1) + 1) + 1) + 1 : Nat) : Int), mt ((((((k + 6 * j) + 1) + 1) + 1) + 1) + 1)⟩ : CL)).flatMap encK) rfl rfl rfl rfl Tryz.sizeOf9 rfl rfl (by decide) (by rw [flat_length encK_len]; (try rw [List.length_set]); rw [markG_lenj mkK 6 hj]; omega) (flat_set1s encK_len k0 (f := 5) (x := (⟨((k + 6 * j : Nat) : Int), mt ((k + 6 * j) + 1), mt (((k + 6 * j) + 1) + 1), (((((k + 6 * j) + 1) + 1) + 1 : Nat) : Int), ((((((k + 6 * j) + 1) + 1) + 1) + 1 : Nat) : Int), (((markG mkK 6 l k).take j ++ l.drop j).getD j k0).text⟩ : CL)) (y := (⟨((k + 6 * j : Nat) : Int), mt ((k + 6 * j) + 1), mt (((k + 6 * j) + 1) + 1), (((((k + 6 * j) + 1) + 1) + 1 : Nat) : Int), ((((((k + 6 * j) + 1) + 1) + 1) + 1 : Nat) : Int), mt ((((((k + 6 * j) + 1) + 1) + 1) + 1) + 1)⟩ : CL)) (by rw [markG_lenj mkK 6 hj]; omega) (by decide) rfl)) ?_
    rintro _ _ rfl
    refine JL.nil ?_
    refine JQ.seq ?_
    refine JC.region ?_
    refine JL.pure rfl (PO.move (v := .int .i64 (((((((k + 6 * j) + 1) + 1) + 1) + 1) + 1 : Nat) : Int)) rfl) ?_
    refine JL.pure rfl (PO.add (c := ((((((((k + 6 * j) + 1) + 1) + 1) + 1) + 1) + 1 : Nat) : Int)) rfl rfl (wr (by omega))) ?_
    refine JL.pure rfl (PO.assign (v := .int .i64 ((((((((k + 6 * j) + 1) + 1) + 1) + 1) + 1) + 1 : Nat) : Int)) rfl) ?_
    refine JL.nil ?_
    refine JQ.blockN ?_
    refine JQ.seq ?_
    refine JC.region ?_
    refine JL.pure rfl (PO.move (v := .int .i64 ((j : Nat) : Int)) he_5) ?_
    refine JL.pure rfl (PO.add (c := ((j + 1 : Nat) : Int)) rfl rfl (wr (by omega))) ?_
    refine JL.pure rfl (PO.assign (v := .int .i64 ((j + 1 : Nat) : Int)) rfl) ?_
    refine JL.nil ?_
    refine JQ.again (l.length - (j + 1)) (by omega) ⟨j + 1, by omega, he_2, rfl, he_4, rfl, (by rw [← markG_step mkK 6 hlt]; rfl), rfl⟩
  · skip
    refine JC.condF (congrArg Value.bool (decide_eq_false h_6)) ?_
    refine JC.exit ?_
    refine JQ.thenExit ?_
    refine JQ.thenExit ?_
    refine JQ.blockE ?_
    refine JQ.seq ?_
    refine JC.seq ?_
    refine JC.region ?_
    refine JL.pure rfl (PO.move (v := .int .i64 ((k + 6 * j : Nat) : Int)) he_3) ?_
    refine JL.pure rfl (PO.assign (v := .int .i64 ((k + 6 * j : Nat) : Int)) rfl) ?_
    refine JL.nil ?_
    refine JQ.seq ?_
    refine JC.ret ?_
    refine Done.one (.inl rfl) rfl (RV.tmp (v := .int .i64 ((k + 6 * j : Nat) : Int)) rfl) (List.Sublist.refl _) ?_
    exact ⟨by rw [show j = l.length by omega], by rw [show j = l.length by omega, List.drop_of_length_le (Nat.le_refl _), List.append_nil, List.take_of_length_le (by rw [markG_len]; exact Nat.le_refl _)]⟩

theorem C_heldCallS (a : Option Addr) (c : Nat) (l : List CL) (k : Nat) (h0 : 0 < k) (h1 : k + 6 * l.length ≤ 100000000) :
    Ct Tryz.prog 105 [.slice a l.length c, .int .i64 ((k : Nat) : Int)] [] (fun w => Sees w (.slice a l.length c) 6 l.length ((markG mkK 6 l k).flatMap encK)) (fun v A' => v = .int .i64 ((k + 6 * l.length : Nat) : Int) ∧ A' = []) := by
  refine Ct.intro Tryz.func105 rfl Tryz.ntmps105 (Nat.le_of_ble_eq_true rfl) fun w0 hpre => ?_
  have hs_a : Sees w0 _ _ _ _ := hpre
  refine JC.seq ?_
  refine JC.region ?_
  refine JL.pure rfl (PO.assign (v := .int .i64 0) rfl) ?_
  refine JL.nil ?_
  refine JQ.seq ?_
  refine JC.seq ?_
  refine JC.seq ?_
  refine JC.region ?_
  refine JL.pure rfl (PO.assign (v := .int .i64 0) rfl) ?_
  refine JL.nil ?_
  refine JQ.seq ?_
  refine JC.block ?_
  refine JC.loop (fun k_ e_ L_ => ∃ j : Nat, (j ≤ l.length) ∧ e_ 0 = .slice a l.length c ∧ e_ 1 = .int .i64 ((k + 6 * j : Nat) : Int) ∧ e_ 5 = .int .i64 ((j : Nat) : Int) ∧ L_ = [] ∧ k_ = l.length - j) _ ⟨0, by omega, rfl, rfl, rfl, rfl, rfl⟩ ?_
  rintro _ e_1 _ ⟨j, hj, he_2, he_3, he_4, rfl, rfl⟩
  refine JC.seq ?_
  refine JC.seq ?_
  refine JC.region ?_
  refine JL.pure rfl (PO.move (v := .int .i64 ((j : Nat) : Int)) he_4) ?_
  refine JL.pure rfl (PO.move (v := .slice a l.length c) he_2) ?_
  refine JL.pure rfl (PO.lenV Tryz.underlying57 rfl) ?_
  refine JL.pure rfl (PO.lss rfl rfl) ?_
  refine JL.nil ?_
  refine JQ.seq ?_
  by_cases h_5 : ((j : Nat) : Int) < ((l.length : Nat) : Int)
  · skip
    have hlt : j < l.length := by omega
    refine JC.condT (congrArg Value.bool (decide_eq_true h_5)) ?_
    refine JC.skip ?_
    refine JQ.seq ?_
    refine JC.seq ?_
    refine JC.block ?_
    refine JC.seq ?_
    refine JC.seq ?_
    refine JC.region ?_
    refine JL.pure rfl (PO.move (v := .slice a l.length c) he_2) ?_
    refine JL.pure rfl (PO.move (v := .int .i64 ((j : Nat) : Int)) he_4) ?_
    obtain ⟨hr_6, hr_6b, -⟩ := sees_some hs_a (by omega)
    refine JL.pure rfl (PO.indexAddrV (i := j) Tryz.underlying57 Tryz.sizeOf152 hr_6 hr_6b rfl rfl (by omega)) ?_
    refine JL.pure rfl (PO.fieldAddrE fo152_0 hr_6 rfl) ?_
    refine JL.ld rfl (LO.loadS1 (v := .int .i64 (((markG mkK 6 l k).getD j k0).kind)) hs_a (fun _ _ => List.not_mem_nil) rfl Tryz.isAgg3 (flat_at encK_len k0 (markG mkK 6 l k) j 0 (by rw [markG_len]; omega) (by decide))) ?_
    refine JL.pure rfl (PO.move (v := .int .i64 ((k + 6 * j : Nat) : Int)) he_3) ?_
    refine JL.pure rfl (PO.neqI rfl rfl) ?_
    refine JL.nil ?_
    refine JQ.seq ?_
    by_cases h_7 : (((markG mkK 6 l k).getD j k0).kind) = ((k + 6 * j : Nat) : Int)
    · skip
      refine JC.condF (congrArg Value.bool (congrArg Bool.not (decide_eq_true h_7))) ?_
      refine JC.skip ?_
      refine JQ.seq ?_
      refine JC.seq ?_
      refine JC.region ?_
      refine JL.pure rfl (PO.move (v := .int .i64 ((k + 6 * j : Nat) : Int)) he_3) ?_
      refine JL.pure rfl (PO.add (c := (((k + 6 * j) + 1 : Nat) : Int)) rfl rfl (wr (by omega))) ?_
      refine JL.pure rfl (PO.assign (v := .int .i64 (((k + 6 * j) + 1 : Nat) : Int)) rfl) ?_
      refine JL.nil ?_
      refine JQ.seq ?_
      refine JC.seq ?_
      refine JC.seq ?_
      refine JC.regionA [] 7 mixed (by simp) ?_
      refine JA.takeP 0 rfl (by kernel_rfl) (NP.th (NP.th (NP.bl (NP.th (NP.th (NP.bl (NP.th NP.body))))))) (by kernel_rfl) (by kernel_rfl) rfl (PO.move (v := .slice a l.length c) he_2) ?_
      refine JA.takeP 1 rfl (by kernel_rfl) (NP.th (NP.th (NP.bl (NP.th (NP.th (NP.bl (NP.th NP.body))))))) (by kernel_rfl) (by kernel_rfl) rfl (PO.move (v := .int .i64 ((j : Nat) : Int)) he_4) ?_
      refine JA.takeP 2 rfl (by kernel_rfl) (NP.th (NP.th (NP.bl (NP.th (NP.th (NP.bl (NP.th NP.body))))))) (by kernel_rfl) (by kernel_rfl) rfl (PO.indexAddrV (i := j) Tryz.underlying57 Tryz.sizeOf152 hr_6 hr_6b rfl rfl (by omega)) ?_
      refine JA.takeP 3 rfl (by kernel_rfl) (NP.th (NP.th (NP.bl (NP.th (NP.th (NP.bl (NP.th NP.body))))))) (by kernel_rfl) (by kernel_rfl) rfl (PO.fieldAddrE fo152_1 hr_6 rfl) ?_
      refine JA.take 4 rfl (by kernel_rfl) (NP.th (NP.th (NP.bl (NP.th (NP.th (NP.bl (NP.th NP.body))))))) (by kernel_rfl) (by kernel_rfl) (by kernel_rfl) rfl (LO.loadS1 (v := str (((markG mkK 6 l k).getD j k0).name)) hs_a (fun _ _ => List.not_mem_nil) rfl Tryz.isAgg9 (flat_at encK_len k0 (markG mkK 6 l k) j 1 (by rw [markG_len]; omega) (by decide))) ?_
      refine JA.takeP 5 rfl (by kernel_rfl) (NP.th (NP.th (NP.bl (NP.th (NP.th (NP.bl (NP.th NP.body))))))) (by kernel_rfl) (by kernel_rfl) rfl (PO.move (v := .int .i64 (((k + 6 * j) + 1 : Nat) : Int)) rfl) ?_
      refine JA.one (i := 6) (by kernel_rfl) ?_
      refine JX.op rfl rfl (JO.call [] Tryz.call102 rfl (C_markText ((k + 6 * j) + 1) (by omega) (by omega)) rfl (fun _ _ => trivial)) ?_
      rintro _ _ ⟨_, ⟨rfl, rfl⟩, rfl⟩
      refine ⟨(fun _ h => by cases h), ?_⟩
      refine JA.takeP 7 rfl (by kernel_rfl) (NP.th (NP.th (NP.bl (NP.th (NP.th (NP.bl (NP.th NP.body))))))) (by kernel_rfl) (by kernel_rfl) rfl (PO.neqS rfl rfl) ?_
      refine JA.done (by kernel_rfl) ?_
      refine JQ.seq ?_
      by_cases h_8 : (((markG mkK 6 l k).getD j k0).name) = (mt ((k + 6 * j) + 1))
      · skip
        refine JC.condF (congrArg Value.bool (congrArg Bool.not (decide_eq_true h_8))) ?_
        refine JC.skip ?_
        refine JQ.seq ?_
        refine JC.seq ?_
        refine JC.region ?_
        refine JL.pure rfl (PO.move (v := .int .i64 (((k + 6 * j) + 1 : Nat) : Int)) rfl) ?_
        refine JL.pure rfl (PO.add (c := ((((k + 6 * j) + 1) + 1 : Nat) : Int)) rfl rfl (wr (by omega))) ?_
        refine JL.pure rfl (PO.assign (v := .int .i64 ((((k + 6 * j) + 1) + 1 : Nat) : Int)) rfl) ?_
        refine JL.nil ?_
        refine JQ.seq ?_
        refine JC.seq ?_
        refine JC.seq ?_
        refine JC.regionA [] 7 mixed (by simp) ?_
        refine JA.takeP 0 rfl (by kernel_rfl) (NP.th (NP.th (NP.bl (NP.th (NP.th (NP.bl (NP.th NP.body))))))) (by kernel_rfl) (by kernel_rfl) rfl (PO.move (v := .slice a l.length c) he_2) ?_
        refine JA.takeP 1 rfl (by kernel_rfl) (NP.th (NP.th (NP.bl (NP.th (NP.th (NP.bl (NP.th NP.body))))))) (by kernel_rfl) (by kernel_rfl) rfl (PO.move (v := .int .i64 ((j : Nat) : Int)) he_4) ?_
        refine JA.takeP 2 rfl (by kernel_rfl) (NP.th (NP.th (NP.bl (NP.th (NP.th (NP.bl (NP.th NP.body))))))) (by kernel_rfl) (by kernel_rfl) rfl (PO.indexAddrV (i := j) Tryz.underlying57 Tryz.sizeOf152 hr_6 hr_6b rfl rfl (by omega)) ?_
        refine JA.takeP 3 rfl (by kernel_rfl) (NP.th (NP.th (NP.bl (NP.th (NP.th (NP.bl (NP.th NP.body))))))) (by kernel_rfl) (by kernel_rfl) rfl (PO.fieldAddrE fo152_2 hr_6 rfl) ?_
        refine JA.take 4 rfl (by kernel_rfl) (NP.th (NP.th (NP.bl (NP.th (NP.th (NP.bl (NP.th NP.body))))))) (by kernel_rfl) (by kernel_rfl) (by kernel_rfl) rfl (LO.loadS1 (v := str (((markG mkK 6 l k).getD j k0).to_)) hs_a (fun _ _ => List.not_mem_nil) rfl Tryz.isAgg9 (flat_at encK_len k0 (markG mkK 6 l k) j 2 (by rw [markG_len]; omega) (by decide))) ?_
        refine JA.takeP 5 rfl (by kernel_rfl) (NP.th (NP.th (NP.bl (NP.th (NP.th (NP.bl (NP.th NP.body))))))) (by kernel_rfl) (by kernel_rfl) rfl (PO.move (v := .int .i64 ((((k + 6 * j) + 1) + 1 : Nat) : Int)) rfl) ?_
        refine JA.one (i := 6) (by kernel_rfl) ?_
        refine JX.op rfl rfl (JO.call [] Tryz.call102 rfl (C_markText (((k + 6 * j) + 1) + 1) (by omega) (by omega)) rfl (fun _ _ => trivial)) ?_
        rintro _ _ ⟨_, ⟨rfl, rfl⟩, rfl⟩
        refine ⟨(fun _ h => by cases h), ?_⟩
        refine JA.takeP 7 rfl (by kernel_rfl) (NP.th (NP.th (NP.bl (NP.th (NP.th (NP.bl (NP.th NP.body))))))) (by kernel_rfl) (by kernel_rfl) rfl (PO.neqS rfl rfl) ?_
        refine JA.done (by kernel_rfl) ?_
        refine JQ.seq ?_
        by_cases h_9 : (((markG mkK 6 l k).getD j k0).to_) = (mt (((k + 6 * j) + 1) + 1))
        · skip
          refine JC.condF (congrArg Value.bool (congrArg Bool.not (decide_eq_true h_9))) ?_
          refine JC.skip ?_
          refine JQ.seq ?_
          refine JC.seq ?_
          refine JC.region ?_
          refine JL.pure rfl (PO.move (v := .int .i64 ((((k + 6 * j) + 1) + 1 : Nat) : Int)) rfl) ?_
          refine JL.pure rfl (PO.add (c := (((((k + 6 * j) + 1) + 1) + 1 : Nat) : Int)) rfl rfl (wr (by omega))) ?_
          refine JL.pure rfl (PO.assign (v := .int .i64 (((((k + 6 * j) + 1) + 1) + 1 : Nat) : Int)) rfl) ?_
          refine JL.nil ?_
          refine JQ.seq ?_
          refine JC.seq ?_
          refine JC.seq ?_
          refine JC.region ?_
          refine JL.pure rfl (PO.move (v := .slice a l.length c) he_2) ?_
          refine JL.pure rfl (PO.move (v := .int .i64 ((j : Nat) : Int)) he_4) ?_
          refine JL.pure rfl (PO.indexAddrV (i := j) Tryz.underlying57 Tryz.sizeOf152 hr_6 hr_6b rfl rfl (by omega)) ?_
          refine JL.pure rfl (PO.fieldAddrE fo152_3 hr_6 rfl) ?_
          refine JL.ld rfl (LO.loadS1 (v := .int .i64 (((markG mkK 6 l k).getD j k0).a)) hs_a (fun _ _ => List.not_mem_nil) rfl Tryz.isAgg3 (flat_at encK_len k0 (markG mkK 6 l k) j 3 (by rw [markG_len]; omega) (by decide))) ?_
          refine JL.pure rfl (PO.move (v := .int .i64 (((((k + 6 * j) + 1) + 1) + 1 : Nat) : Int)) rfl) ?_
          refine JL.pure rfl (PO.neqI rfl rfl) ?_
          refine JL.nil ?_
          refine JQ.seq ?_
          by_cases h_10 : (((markG mkK 6 l k).getD j k0).a) = (((((k + 6 * j) + 1) + 1) + 1 : Nat) : Int)
          · skip
            refine JC.condF (congrArg Value.bool (congrArg Bool.not (decide_eq_true h_10))) ?_
            refine JC.skip ?_
            refine JQ.seq ?_
            refine JC.seq ?_
            refine JC.region ?_
            refine JL.pure rfl (PO.move (v := .int .i64 (((((k + 6 * j) + 1) + 1) + 1 : Nat) : Int)) rfl) ?_
            refine JL.pure rfl (PO.add (c := ((((((k + 6 * j) + 1) + 1) + 1) + 1 : Nat) : Int)) rfl rfl (wr (by omega))) ?_
            refine JL.pure rfl (PO.assign (v := .int .i64 ((((((k + 6 * j) + 1) + 1) + 1) + 1 : Nat) : Int)) rfl) ?_
            refine JL.nil ?_
            refine JQ.seq ?_
            refine JC.seq ?_
            refine JC.seq ?_
            refine JC.region ?_
            refine JL.pure rfl (PO.move (v := .slice a l.length c) he_2) ?_
            refine JL.pure rfl (PO.move (v := .int .i64 ((j : Nat) : Int)) he_4) ?_
            refine JL.pure rfl (PO.indexAddrV (i := j) Tryz.underlying57 Tryz.sizeOf152 hr_6 hr_6b rfl rfl (by omega)) ?_
            refine JL.pure rfl (PO.fieldAddrE fo152_4 hr_6 rfl) ?_
            refine JL.ld rfl (LO.loadS1 (v := .int .i64 (((markG mkK 6 l k).getD j k0).b)) hs_a (fun _ _ => List.not_mem_nil) rfl Tryz.isAgg3 (flat_at encK_len k0 (markG mkK 6 l k) j 4 (by rw [markG_len]; omega) (by decide))) ?_
            refine JL.pure rfl (PO.move (v := .int .i64 ((((((k + 6 * j) + 1) + 1) + 1) + 1 : Nat) : Int)) rfl) ?_
            refine JL.pure rfl (PO.neqI rfl rfl) ?_
            refine JL.nil ?_
            refine JQ.seq ?_
            by_cases h_11 : (((markG mkK 6 l k).getD j k0).b) = ((((((k + 6 * j) + 1) + 1) + 1) + 1 : Nat) : Int)
            · skip
              refine JC.condF (congrArg Value.bool (congrArg Bool.not (decide_eq_true h_11))) ?_
              refine JC.skip ?_
              refine JQ.seq ?_
              refine JC.seq ?_
              refine JC.region ?_
              refine JL.pure rfl (PO.move (v := .int .i64 ((((((k + 6 * j) + 1) + 1) + 1) + 1 : Nat) : Int)) rfl) ?_
              refine JL.pure rfl (PO.add (c := (((((((k + 6 * j) + 1) + 1) + 1) + 1) + 1 : Nat) : Int)) rfl rfl (wr (by omega))) ?_
              refine JL.pure rfl (PO.assign (v := .int .i64 (((((((k + 6 * j) + 1) + 1) + 1) + 1) + 1 : Nat) : Int)) rfl) ?_
              refine JL.nil ?_
              refine JQ.seq ?_
              refine JC.seq ?_
              refine JC.seq ?_
              refine JC.regionA [] 7 mixed (by simp) ?_
              refine JA.takeP 0 rfl (by kernel_rfl) (NP.th (NP.th (NP.bl (NP.th (NP.th (NP.bl (NP.th NP.body))))))) (by kernel_rfl) (by kernel_rfl) rfl (PO.move (v := .slice a l.length c) he_2) ?_
              refine JA.takeP 1 rfl (by kernel_rfl) (NP.th (NP.th (NP.bl (NP.th (NP.th (NP.bl (NP.th NP.body))))))) (by kernel_rfl) (by kernel_rfl) rfl (PO.move (v := .int .i64 ((j : Nat) : Int)) he_4) ?_
              refine JA.takeP 2 rfl (by kernel_rfl) (NP.th (NP.th (NP.bl (NP.th (NP.th (NP.bl (NP.th NP.body))))))) (by kernel_rfl) (by kernel_rfl) rfl (PO.indexAddrV (i := j) Tryz.underlying57 Tryz.sizeOf152 hr_6 hr_6b rfl rfl (by omega)) ?_
              refine JA.takeP 3 rfl (by kernel_rfl) (NP.th (NP.th (NP.bl (NP.th (NP.th (NP.bl (NP.th NP.body))))))) (by kernel_rfl) (by kernel_rfl) rfl (PO.fieldAddrE fo152_5 hr_6 rfl) ?_
              refine JA.take 4 rfl (by kernel_rfl) (NP.th (NP.th (NP.bl (NP.th (NP.th (NP.bl (NP.th NP.body))))))) (by kernel_rfl) (by kernel_rfl) (by kernel_rfl) rfl (LO.loadS1 (v := str (((markG mkK 6 l k).getD j k0).text)) hs_a (fun _ _ => List.not_mem_nil) rfl Tryz.isAgg9 (flat_at encK_len k0 (markG mkK 6 l k) j 5 (by rw [markG_len]; omega) (by decide))) ?_
              refine JA.takeP 5 rfl (by kernel_rfl) (NP.th (NP.th (NP.bl (NP.th (NP.th (NP.bl (NP.th NP.body))))))) (by kernel_rfl) (by kernel_rfl) rfl (PO.move (v := .int .i64 (((((((k + 6 * j) + 1) + 1) + 1) + 1) + 1 : Nat) : Int)) rfl) ?_
              refine JA.one (i := 6) (by kernel_rfl) ?_
              refine JX.op rfl rfl (JO.call [] Tryz.call102 rfl (C_markText ((((((k + 6 * j) + 1) + 1) + 1) + 1) + 1) (by omega) (by omega)) rfl (fun _ _ => trivial)) ?_
              rintro _ _ ⟨_, ⟨rfl, rfl⟩, rfl⟩
              refine ⟨(fun _ h => by cases h), ?_⟩
              refine JA.takeP 7 rfl (by kernel_rfl) (NP.th (NP.th (NP.bl (NP.th (NP.th (NP.bl (NP.th NP.body))))))) (by kernel_rfl) (by kernel_rfl) rfl (PO.neqS rfl rfl) ?_
              refine JA.done (by kernel_rfl) ?_
              refine JQ.seq ?_
              by_cases h_12 : (((markG mkK 6 l k).getD j k0).text) = (mt ((((((k + 6 * j) + 1) + 1) + 1) + 1) + 1))
              · skip
                refine JC.condF (congrArg Value.bool (congrArg Bool.not (decide_eq_true h_12))) ?_
                refine JC.skip ?_
                refine JQ.seq ?_
                refine JC.region ?_
                refine JL.pure rfl (PO.move (v := .int .i64 (((((((k + 6 * j) + 1) + 1) + 1) + 1) + 1 : Nat) : Int)) rfl) ?_
                refine JL.pure rfl (PO.add (c := ((((((((k + 6 * j) + 1) + 1) + 1) + 1) + 1) + 1 : Nat) : Int)) rfl rfl (wr (by omega))) ?_
                refine JL.pure rfl (PO.assign (v := .int .i64 ((((((((k + 6 * j) + 1) + 1) + 1) + 1) + 1) + 1 : Nat) : Int)) rfl) ?_
                refine JL.nil ?_
                refine JQ.blockN ?_
                refine JQ.seq ?_
                refine JC.region ?_
                refine JL.pure rfl (PO.move (v := .int .i64 ((j : Nat) : Int)) he_4) ?_
                refine JL.pure rfl (PO.add (c := ((j + 1 : Nat) : Int)) rfl rfl (wr (by omega))) ?_
                refine JL.pure rfl (PO.assign (v := .int .i64 ((j + 1 : Nat) : Int)) rfl) ?_
                refine JL.nil ?_
                refine JQ.again (l.length - (j + 1)) (by omega) ⟨j + 1, by omega, he_2, rfl, rfl, rfl, rfl⟩
              · skip
                exfalso; rw [markG_get mkK 6 k0 l k j hlt] at h_12; first | omega | exact h_12 rfl
            · skip
              exfalso; rw [markG_get mkK 6 k0 l k j hlt] at h_11; first | omega | exact h_11 rfl
          · skip
            exfalso; rw [markG_get mkK 6 k0 l k j hlt] at h_10; first | omega | exact h_10 rfl
        · skip
          exfalso; rw [markG_get mkK 6 k0 l k j hlt] at h_9; first | omega | exact h_9 rfl
      · skip
        exfalso; rw [markG_get mkK 6 k0 l k j hlt] at h_8; first | omega | exact h_8 rfl
    · skip
      exfalso; rw [markG_get mkK 6 k0 l k j hlt] at h_7; first | omega | exact h_7 rfl
  · skip
    refine JC.condF (congrArg Value.bool (decide_eq_false h_5)) ?_
    refine JC.exit ?_
    refine JQ.thenExit ?_
    refine JQ.thenExit ?_
    refine JQ.blockE ?_
    refine JQ.seq ?_
    refine JC.seq ?_
    refine JC.region ?_
    refine JL.pure rfl (PO.move (v := .int .i64 ((k + 6 * j : Nat) : Int)) he_3) ?_
    refine JL.pure rfl (PO.assign (v := .int .i64 ((k + 6 * j : Nat) : Int)) rfl) ?_
    refine JL.nil ?_
    refine JQ.seq ?_
    refine JC.ret ?_
    refine Done.one (.inl rfl) rfl (RV.tmp (v := .int .i64 ((k + 6 * j : Nat) : Int)) rfl) (List.nil_sublist _) ?_
    exact ⟨by rw [show j = l.length by omega], rfl⟩

theorem N_toAnswer (c : AN) :
    Ct Tryz.prog 113 [.agg #[.int .i64 c.code, .int .i64 c.n, str c.text]] [] (fun _ => True) (fun v A' => v = .agg #[.int .i64 c.code, .int .i64 c.n, str c.text] ∧ A' = []) := by
  refine Ct.intro Tryz.func113 rfl Tryz.ntmps113 (Nat.le_of_ble_eq_true rfl) fun w0 hpre => ?_
  refine JC.seq ?_
  refine JC.region ?_
  refine JL.op rfl (JO.box (cs := [.int .i64 c.code, .int .i64 c.n, str c.text]) rfl rfl) ?_
  rintro _ _ ⟨b_1, rfl, rfl⟩
  refine JL.op rfl (JO.alloc (z := .agg #[.int .i64 0, .int .i64 0, str []]) (cs := [.int .i64 0, .int .i64 0, str []]) Tryz.zeroValue154 rfl) ?_
  rintro _ _ ⟨b_2, rfl, rfl⟩
  refine JL.nil ?_
  refine JQ.seq ?_
  refine JC.seq ?_
  refine JC.region ?_
  refine JL.op rfl (JO.alloc (z := .agg #[.int .i64 0, .int .i64 0, str []]) (cs := [.int .i64 0, .int .i64 0, str []]) Tryz.zeroValue154 rfl) ?_
  rintro _ _ ⟨b_3, rfl, rfl⟩
  refine JL.nil ?_
  refine JQ.seq ?_
  refine JC.seq ?_
  refine JC.region ?_
  refine JL.pure rfl (PO.fieldAddr fo151_0 rfl) ?_
  refine JL.ld rfl (LO.load1 2 (v := .int .i64 c.code) rfl rfl Tryz.isAgg3 rfl) ?_
  refine JL.pure rfl (PO.fieldAddr fo154_0 rfl) ?_
  refine JL.op rfl (JO.store 0 (vs := [.int .i64 c.code]) (cs' := [.int .i64 c.code, .int .i64 0, str []]) rfl rfl rfl rfl Tryz.sizeOf3 rfl rfl (Nat.le_of_ble_eq_true rfl) rfl) ?_
  rintro _ _ rfl
  refine JL.nil ?_
  refine JQ.seq ?_
  refine JC.seq ?_
  refine JC.region ?_
  refine JL.pure rfl (PO.fieldAddr fo151_1 rfl) ?_
  refine JL.ld rfl (LO.load1 2 (v := .int .i64 c.n) rfl rfl Tryz.isAgg3 rfl) ?_
  refine JL.pure rfl (PO.fieldAddr fo154_1 rfl) ?_
  refine JL.op rfl (JO.store 0 (vs := [.int .i64 c.n]) (cs' := [.int .i64 c.code, .int .i64 c.n, str []]) rfl rfl rfl rfl Tryz.sizeOf3 rfl rfl (Nat.le_of_ble_eq_true rfl) rfl) ?_
  rintro _ _ rfl
  refine JL.nil ?_
  refine JQ.seq ?_
  refine JC.seq ?_
  refine JC.region ?_
  refine JL.pure rfl (PO.fieldAddr fo151_2 rfl) ?_
  refine JL.ld rfl (LO.load1 2 (v := str c.text) rfl rfl Tryz.isAgg9 rfl) ?_
  refine JL.pure rfl (PO.fieldAddr fo154_2 rfl) ?_
  refine JL.op rfl (JO.store 0 (vs := [str c.text]) (cs' := [.int .i64 c.code, .int .i64 c.n, str c.text]) rfl rfl rfl rfl Tryz.sizeOf9 rfl rfl (Nat.le_of_ble_eq_true rfl) rfl) ?_
  rintro _ _ rfl
  refine JL.nil ?_
  refine JQ.seq ?_
  refine JC.seq ?_
  refine JC.region ?_
  refine JL.ld rfl (LO.loadK 0 (vs := [.int .i64 c.code, .int .i64 c.n, str c.text]) rfl rfl Tryz.isAgg154 Tryz.sizeOf154 rfl rfl) ?_
  refine JL.op rfl (JO.store 1 (vs := [.int .i64 c.code, .int .i64 c.n, str c.text]) (cs' := [.int .i64 c.code, .int .i64 c.n, str c.text]) rfl rfl rfl rfl Tryz.sizeOf154 rfl rfl (Nat.le_of_ble_eq_true rfl) rfl) ?_
  rintro _ _ rfl
  refine JL.nil ?_
  refine JQ.seq ?_
  refine JC.ret ?_
  refine Done.one (.inl rfl) rfl (RV.cell1 (LO.loadK 1 (vs := [.int .i64 c.code, .int .i64 c.n, str c.text]) rfl rfl Tryz.isAgg154 Tryz.sizeOf154 rfl rfl) ⟨_, rfl⟩) (List.nil_sublist _) ?_
  exact ⟨rfl, rfl⟩

theorem C_eqAnswer (a b : AN) :
    Ct Tryz.prog 121 [.agg #[.int .i64 a.code, .int .i64 a.n, str a.text], .agg #[.int .i64 b.code, .int .i64 b.n, str b.text]] [] (fun _ => True) (fun v A' => v = .bool (decide (a = b)) ∧ A' = []) := by
  refine Ct.intro Tryz.func121 rfl Tryz.ntmps121 (Nat.le_of_ble_eq_true rfl) fun w0 hpre => ?_
  refine JC.seq ?_
  refine JC.region ?_
  refine JL.op rfl (JO.box (cs := [.int .i64 a.code, .int .i64 a.n, str a.text]) rfl rfl) ?_
  rintro _ _ ⟨b_1, rfl, rfl⟩
  refine JL.op rfl (JO.box (cs := [.int .i64 b.code, .int .i64 b.n, str b.text]) rfl rfl) ?_
  rintro _ _ ⟨b_2, rfl, rfl⟩
  refine JL.pure rfl (PO.assign (v := .bool false) rfl) ?_
  refine JL.nil ?_
  refine JQ.seq ?_
  refine JC.seq ?_
  refine JC.seq ?_
  refine JC.region ?_
  refine JL.pure rfl (PO.fieldAddr fo154_0 rfl) ?_
  refine JL.ld rfl (LO.load1 1 (v := .int .i64 a.code) rfl rfl Tryz.isAgg3 rfl) ?_
  refine JL.pure rfl (PO.fieldAddr fo154_0 rfl) ?_
  refine JL.ld rfl (LO.load1 0 (v := .int .i64 b.code) rfl rfl Tryz.isAgg3 rfl) ?_
  refine JL.pure rfl (PO.neqI rfl rfl) ?_
  refine JL.nil ?_
  refine JQ.seq ?_
  by_cases h_3 : a.code = b.code
  · skip
    refine JC.condF (congrArg Value.bool (congrArg Bool.not (decide_eq_true h_3))) ?_
    refine JC.skip ?_
    refine JQ.seq ?_
    refine JC.seq ?_
    refine JC.seq ?_
    refine JC.region ?_
    refine JL.pure rfl (PO.fieldAddr fo154_1 rfl) ?_
    refine JL.ld rfl (LO.load1 1 (v := .int .i64 a.n) rfl rfl Tryz.isAgg3 rfl) ?_
    refine JL.pure rfl (PO.fieldAddr fo154_1 rfl) ?_
    refine JL.ld rfl (LO.load1 0 (v := .int .i64 b.n) rfl rfl Tryz.isAgg3 rfl) ?_
    refine JL.pure rfl (PO.neqI rfl rfl) ?_
    refine JL.nil ?_
    refine JQ.seq ?_
    by_cases h_4 : a.n = b.n
    · skip
      refine JC.condF (congrArg Value.bool (congrArg Bool.not (decide_eq_true h_4))) ?_
      refine JC.skip ?_
      refine JQ.seq ?_
      refine JC.seq ?_
      refine JC.seq ?_
      refine JC.region ?_
      refine JL.pure rfl (PO.fieldAddr fo154_2 rfl) ?_
      refine JL.ld rfl (LO.load1 1 (v := str a.text) rfl rfl Tryz.isAgg9 rfl) ?_
      refine JL.pure rfl (PO.fieldAddr fo154_2 rfl) ?_
      refine JL.ld rfl (LO.load1 0 (v := str b.text) rfl rfl Tryz.isAgg9 rfl) ?_
      refine JL.pure rfl (PO.neqS rfl rfl) ?_
      refine JL.nil ?_
      refine JQ.seq ?_
      by_cases h_5 : a.text = b.text
      · skip
        refine JC.condF (congrArg Value.bool (congrArg Bool.not (decide_eq_true h_5))) ?_
        refine JC.skip ?_
        refine JQ.seq ?_
        refine JC.seq ?_
        refine JC.region ?_
        refine JL.pure rfl (PO.assign (v := .bool true) rfl) ?_
        refine JL.nil ?_
        refine JQ.seq ?_
        refine JC.ret ?_
        refine Done.one (.inl rfl) rfl (RV.tmp (v := .bool true) rfl) (List.nil_sublist _) ?_
        refine ⟨congrArg Value.bool ?_, rfl⟩
        exact (decide_eq_true (by cases a; cases b; simp_all)).symm
      · skip
        refine JC.condT (congrArg Value.bool (congrArg Bool.not (decide_eq_false h_5))) ?_
        refine JC.seq ?_
        refine JC.region ?_
        refine JL.pure rfl (PO.assign (v := .bool false) rfl) ?_
        refine JL.nil ?_
        refine JQ.seq ?_
        refine JC.ret ?_
        refine JQ.thenRet ?_
        refine Done.one (.inl rfl) rfl (RV.tmp (v := .bool false) rfl) (List.nil_sublist _) ?_
        refine ⟨congrArg Value.bool ?_, rfl⟩
        exact (decide_eq_false (fun h_ => by subst h_; simp_all)).symm
    · skip
      refine JC.condT (congrArg Value.bool (congrArg Bool.not (decide_eq_false h_4))) ?_
      refine JC.seq ?_
      refine JC.region ?_
      refine JL.pure rfl (PO.assign (v := .bool false) rfl) ?_
      refine JL.nil ?_
      refine JQ.seq ?_
      refine JC.ret ?_
      refine JQ.thenRet ?_
      refine Done.one (.inl rfl) rfl (RV.tmp (v := .bool false) rfl) (List.nil_sublist _) ?_
      refine ⟨congrArg Value.bool ?_, rfl⟩
      exact (decide_eq_false (fun h_ => by subst h_; simp_all)).symm
  · skip
    refine JC.condT (congrArg Value.bool (congrArg Bool.not (decide_eq_false h_3))) ?_
    refine JC.seq ?_
    refine JC.region ?_
    refine JL.pure rfl (PO.assign (v := .bool false) rfl) ?_
    refine JL.nil ?_
    refine JQ.seq ?_
    refine JC.ret ?_
    refine JQ.thenRet ?_
    refine Done.one (.inl rfl) rfl (RV.tmp (v := .bool false) rfl) (List.nil_sublist _) ?_
    refine ⟨congrArg Value.bool ?_, rfl⟩
    exact (decide_eq_false (fun h_ => by subst h_; simp_all)).symm

theorem C_eqAnswerS (a b : Option Addr) (c c' : Nat) (s t : List AN) (hn : s.length ≤ 9223372036854775807) :
    Ct Tryz.prog 67 [.slice a s.length c, .slice b t.length c'] [] (fun w => Sees w (.slice a s.length c) 3 s.length (s.flatMap encA) ∧ Sees w (.slice b t.length c') 3 t.length (t.flatMap encA)) (fun r A' => r = .bool (decide (s = t)) ∧ A' = []) := by
  refine Ct.intro Tryz.func67 rfl Tryz.ntmps67 (Nat.le_of_ble_eq_true rfl) fun w0 hpre => ?_
  have hs_a : Sees w0 _ _ _ _ := hpre.1
  have hs_b : Sees w0 _ _ _ _ := hpre.2
  refine JC.seq ?_
  refine JC.region ?_
  refine JL.pure rfl (PO.assign (v := .bool false) rfl) ?_
  refine JL.nil ?_
  refine JQ.seq ?_
  refine JC.seq ?_
  refine JC.seq ?_
  refine JC.region ?_
  refine JL.pure rfl (PO.move (v := .slice a s.length c) rfl) ?_
  refine JL.pure rfl (PO.lenV Tryz.underlying58 rfl) ?_
  refine JL.pure rfl (PO.move (v := .slice b t.length c') rfl) ?_
  refine JL.pure rfl (PO.lenV Tryz.underlying58 rfl) ?_
  refine JL.pure rfl (PO.neqI rfl rfl) ?_
  refine JL.nil ?_
  refine JQ.seq ?_
  by_cases h_1 : ((s.length : Nat) : Int) = ((t.length : Nat) : Int)
  · skip
    have hlen := h_1
    refine JC.condF (congrArg Value.bool (congrArg Bool.not (decide_eq_true h_1))) ?_
    refine JC.skip ?_
    refine JQ.seq ?_
    refine JC.seq ?_
    refine JC.seq ?_
    refine JC.region ?_
    refine JL.pure rfl (PO.assign (v := .int .i64 0) rfl) ?_
    refine JL.nil ?_
    refine JQ.seq ?_
    refine JC.block ?_
    refine JC.loop (fun k_ e_ L_ => ∃ j : Nat, (j ≤ s.length) ∧ (s.take j = t.take j) ∧ (s.length = t.length) ∧ e_ 0 = .slice a s.length c ∧ e_ 1 = .slice b t.length c' ∧ e_ 5 = .int .i64 ((j : Nat) : Int) ∧ L_ = [] ∧ k_ = s.length - j) _ ⟨0, by omega, rfl, by omega, rfl, rfl, rfl, rfl, rfl⟩ ?_
    rintro _ e_2 _ ⟨j, hj, hE, hln, he_3, he_4, he_5, rfl, rfl⟩
    refine JC.seq ?_
    refine JC.seq ?_
    refine JC.region ?_
    refine JL.pure rfl (PO.move (v := .int .i64 ((j : Nat) : Int)) he_5) ?_
    refine JL.pure rfl (PO.move (v := .slice a s.length c) he_3) ?_
    refine JL.pure rfl (PO.lenV Tryz.underlying58 rfl) ?_
    refine JL.pure rfl (PO.lss rfl rfl) ?_
    refine JL.nil ?_
    refine JQ.seq ?_
    by_cases h_6 : ((j : Nat) : Int) < ((s.length : Nat) : Int)
    · skip
      have hlt : j < s.length := by omega
      refine JC.condT (congrArg Value.bool (decide_eq_true h_6)) ?_
      refine JC.skip ?_
      refine JQ.seq ?_
      refine JC.seq ?_
      refine JC.block ?_
      refine JC.seq ?_
      refine JC.regionA [] 1000 mixed (by simp) ?_
      refine JA.takeP 0 rfl (by kernel_rfl) (NP.th (NP.bl (NP.th (NP.th (NP.bl (NP.th NP.body)))))) (by kernel_rfl) (by kernel_rfl) rfl (PO.move (v := .slice a s.length c) he_3) ?_
      refine JA.takeP 1 rfl (by kernel_rfl) (NP.th (NP.bl (NP.th (NP.th (NP.bl (NP.th NP.body)))))) (by kernel_rfl) (by kernel_rfl) rfl (PO.move (v := .int .i64 ((j : Nat) : Int)) he_5) ?_
      obtain ⟨hr_7, hr_7b, -⟩ := sees_some hs_a (by omega)
      refine JA.takeP 2 rfl (by kernel_rfl) (NP.th (NP.bl (NP.th (NP.th (NP.bl (NP.th NP.body)))))) (by kernel_rfl) (by kernel_rfl) rfl (PO.indexAddrV (i := j) Tryz.underlying58 Tryz.sizeOf154 hr_7 hr_7b rfl rfl (by omega)) ?_
      refine JA.take 3 rfl (by kernel_rfl) (NP.th (NP.bl (NP.th (NP.th (NP.bl (NP.th NP.body)))))) (by kernel_rfl) (by kernel_rfl) (by kernel_rfl) rfl (LO.loadSK (vs := [.int .i64 ((s.getD j a0_).code), .int .i64 ((s.getD j a0_).n), str ((s.getD j a0_).text)]) hs_a (fun _ _ => List.not_mem_nil) rfl Tryz.isAgg154 Tryz.sizeOf154 (flat_take encA_len a0_ s j (by omega)) rfl (by decide)) ?_
      refine JA.takeP 4 rfl (by kernel_rfl) (NP.th (NP.bl (NP.th (NP.th (NP.bl (NP.th NP.body)))))) (by kernel_rfl) (by kernel_rfl) rfl (PO.move (v := .slice b t.length c') he_4) ?_
      refine JA.takeP 5 rfl (by kernel_rfl) (NP.th (NP.bl (NP.th (NP.th (NP.bl (NP.th NP.body)))))) (by kernel_rfl) (by kernel_rfl) rfl (PO.move (v := .int .i64 ((j : Nat) : Int)) he_5) ?_
      obtain ⟨hr_8, hr_8b, -⟩ := sees_some hs_b (by omega)
      refine JA.takeP 6 rfl (by kernel_rfl) (NP.th (NP.bl (NP.th (NP.th (NP.bl (NP.th NP.body)))))) (by kernel_rfl) (by kernel_rfl) rfl (PO.indexAddrV (i := j) Tryz.underlying58 Tryz.sizeOf154 hr_8 hr_8b rfl rfl (by omega)) ?_
      refine JA.take 7 rfl (by kernel_rfl) (NP.th (NP.bl (NP.th (NP.th (NP.bl (NP.th NP.body)))))) (by kernel_rfl) (by kernel_rfl) (by kernel_rfl) rfl (LO.loadSK (vs := [.int .i64 ((t.getD j a0_).code), .int .i64 ((t.getD j a0_).n), str ((t.getD j a0_).text)]) hs_b (fun _ _ => List.not_mem_nil) rfl Tryz.isAgg154 Tryz.sizeOf154 (flat_take encA_len a0_ t j (by omega)) rfl (by decide)) ?_
      refine JA.one (i := 8) (by kernel_rfl) ?_
      refine JX.op rfl rfl (JO.call [] Tryz.call121 rfl (C_eqAnswer (s.getD j a0_) (t.getD j a0_)) rfl (fun _ _ => trivial)) ?_
      rintro _ _ ⟨_, ⟨rfl, rfl⟩, rfl⟩
      refine ⟨(fun _ h => by cases h), ?_⟩
      refine JA.takeP 9 rfl (by kernel_rfl) (NP.th (NP.bl (NP.th (NP.th (NP.bl (NP.th NP.body)))))) (by kernel_rfl) (by kernel_rfl) rfl (PO.not rfl) ?_
      refine JA.done (by kernel_rfl) ?_
      refine JQ.seq ?_
      by_cases h_9 : (s.getD j a0_) = (t.getD j a0_)
      · skip
        have heq := h_9
        refine JC.condF (congrArg Value.bool (congrArg Bool.not (decide_eq_true h_9))) ?_
        refine JC.skip ?_
        refine JQ.blockN ?_
        refine JQ.seq ?_
        refine JC.region ?_
        refine JL.pure rfl (PO.move (v := .int .i64 ((j : Nat) : Int)) he_5) ?_
        refine JL.pure rfl (PO.add (c := ((j + 1 : Nat) : Int)) rfl rfl (wr (by omega))) ?_
        refine JL.pure rfl (PO.assign (v := .int .i64 ((j + 1 : Nat) : Int)) rfl) ?_
        refine JL.nil ?_
        refine JQ.again (s.length - (j + 1)) (by omega) ⟨j + 1, by omega, take_succ_eq a0_ hE hlt hln heq, hln, he_3, he_4, rfl, rfl, rfl⟩
      · skip
        have hne := h_9
        refine JC.condT (congrArg Value.bool (congrArg Bool.not (decide_eq_false h_9))) ?_
        refine JC.seq ?_
        refine JC.region ?_
        refine JL.pure rfl (PO.assign (v := .bool false) rfl) ?_
        refine JL.nil ?_
        refine JQ.seq ?_
        refine JC.ret ?_
        refine JQ.blockRet ?_
        refine JQ.thenRet ?_
        refine JQ.thenRet ?_
        refine JQ.blockRet ?_
        refine JQ.thenRet ?_
        refine Done.one (.inl rfl) rfl (RV.tmp (v := .bool false) rfl) (List.nil_sublist _) ?_
        refine ⟨?_, rfl⟩
        rw [decide_eq_false (fun h => hne (by rw [h]))]
    · skip
      refine JC.condF (congrArg Value.bool (decide_eq_false h_6)) ?_
      refine JC.exit ?_
      refine JQ.thenExit ?_
      refine JQ.thenExit ?_
      refine JQ.blockE ?_
      refine JQ.seq ?_
      refine JC.seq ?_
      refine JC.region ?_
      refine JL.pure rfl (PO.assign (v := .bool true) rfl) ?_
      refine JL.nil ?_
      refine JQ.seq ?_
      refine JC.ret ?_
      refine Done.one (.inl rfl) rfl (RV.tmp (v := .bool true) rfl) (List.nil_sublist _) ?_
      refine ⟨?_, rfl⟩
      rw [decide_eq_true (take_all_eq hE (by omega) (by omega))]
  · skip
    have hlen := h_1
    refine JC.condT (congrArg Value.bool (congrArg Bool.not (decide_eq_false h_1))) ?_
    refine JC.seq ?_
    refine JC.region ?_
    refine JL.pure rfl (PO.assign (v := .bool false) rfl) ?_
    refine JL.nil ?_
    refine JQ.seq ?_
    refine JC.ret ?_
    refine JQ.thenRet ?_
    refine Done.one (.inl rfl) rfl (RV.tmp (v := .bool false) rfl) (List.nil_sublist _) ?_
    refine ⟨?_, rfl⟩
    rw [decide_eq_false (fun h => by rw [h] at hlen; omega)]

theorem C_markAnswerS (a : Option Addr) (c : Nat) (l : List AN) (k : Nat) (h0 : 0 < k) (h1 : k + 3 * l.length ≤ 100000000) :
    Ct Tryz.prog 71 [.slice a l.length c, .int .i64 ((k : Nat) : Int)] [Res.row (.slice a l.length c) 154 3 l.length (l.flatMap encA)] (fun _ => True) (fun v A' => v = .int .i64 ((k + 3 * l.length : Nat) : Int) ∧ A' = [.row (.slice a l.length c) 154 3 l.length ((markG mkA 3 l k).flatMap encA)]) := by
  refine Ct.intro Tryz.func71 rfl Tryz.ntmps71 (Nat.le_of_ble_eq_true rfl) fun w0 hpre => ?_
  refine JC.seq ?_
  refine JC.region ?_
  refine JL.pure rfl (PO.assign (v := .int .i64 0) rfl) ?_
  refine JL.nil ?_
  refine JQ.seq ?_
  refine JC.seq ?_
  refine JC.seq ?_
  refine JC.region ?_
  refine JL.pure rfl (PO.assign (v := .int .i64 0) rfl) ?_
  refine JL.nil ?_
  refine JQ.seq ?_
  refine JC.block ?_
  refine JC.loop (fun k_ e_ L_ => ∃ j : Nat, (j ≤ l.length) ∧ e_ 0 = .slice a l.length c ∧ e_ 1 = .int .i64 ((k + 3 * j : Nat) : Int) ∧ e_ 4 = .int .i64 0 ∧ e_ 5 = .int .i64 ((j : Nat) : Int) ∧ L_ = [Res.row (.slice a l.length c) 154 3 l.length (((markG mkA 3 l k).take j ++ l.drop j).flatMap encA)] ∧ k_ = l.length - j) _ ⟨0, by omega, rfl, rfl, rfl, rfl, rfl, rfl⟩ ?_
  rintro _ e_1 _ ⟨j, hj, he_2, he_3, he_4, he_5, rfl, rfl⟩
  refine JC.seq ?_
  refine JC.seq ?_
  refine JC.region ?_
  refine JL.pure rfl (PO.move (v := .int .i64 ((j : Nat) : Int)) he_5) ?_
  refine JL.pure rfl (PO.move (v := .slice a l.length c) he_2) ?_
  refine JL.pure rfl (PO.lenV Tryz.underlying58 rfl) ?_
  refine JL.pure rfl (PO.lss rfl rfl) ?_
  refine JL.nil ?_
  refine JQ.seq ?_
  by_cases h_6 : ((j : Nat) : Int) < ((l.length : Nat) : Int)
  · skip
    have hlt : j < l.length := by omega
    refine JC.condT (congrArg Value.bool (decide_eq_true h_6)) ?_
    refine JC.skip ?_
    refine JQ.seq ?_
    refine JC.seq ?_
    refine JC.block ?_
    refine JC.seq ?_
    refine JC.region ?_
    refine JL.pure rfl (PO.move (v := .slice a l.length c) he_2) ?_
    refine JL.pure rfl (PO.move (v := .int .i64 ((j : Nat) : Int)) he_5) ?_
    refine JL.pure rfl (PO.move (v := .int .i64 ((k + 3 * j : Nat) : Int)) he_3) ?_
    refine JL.facts fun hst => ?_
    obtain ⟨hr_7, hr_7b, -⟩ := row_some 0 rfl (by omega) hst
    refine JL.pure rfl (PO.indexAddrV (i := j) Tryz.underlying58 Tryz.sizeOf154 hr_7 hr_7b rfl rfl (by omega)) ?_
    refine JL.pure rfl (PO.fieldAddrE fo154_0 hr_7 rfl) ?_
    refine JL.op rfl (JO.storeR 0 (vs := [.int .i64 ((k + 3 * j : Nat) : Int)]) (cs' := (((markG mkA 3 l k).take j ++ l.drop j).set j (⟨((k + 3 * j : Nat) : Int), (((markG mkA 3 l k).take j ++ l.drop j).getD j a0_).n, (((markG mkA 3 l k).take j ++ l.drop j).getD j a0_).text⟩ : AN)).flatMap encA) rfl rfl rfl rfl Tryz.sizeOf3 rfl rfl (by decide) (by rw [flat_length encA_len]; (try rw [List.length_set]); rw [markG_lenj mkA 3 hj]; omega) (flat_set1 encA_len a0_ (f := 0) (y := (⟨((k + 3 * j : Nat) : Int), (((markG mkA 3 l k).take j ++ l.drop j).getD j a0_).n, (((markG mkA 3 l k).take j ++ l.drop j).getD j a0_).text⟩ : AN)) (by rw [markG_lenj mkA 3 hj]; omega) (by decide) rfl)) ?_
    rintro _ _ rfl
    refine JL.nil ?_
    refine JQ.seq ?_
    refine JC.seq ?_
    refine JC.region ?_
    refine JL.pure rfl (PO.move (v := .int .i64 ((k + 3 * j : Nat) : Int)) he_3) ?_
    refine JL.pure rfl (PO.add (c := (((k + 3 * j) + 1 : Nat) : Int)) rfl rfl (wr (by omega))) ?_
    refine JL.pure rfl (PO.assign (v := .int .i64 (((k + 3 * j) + 1 : Nat) : Int)) rfl) ?_
    refine JL.nil ?_
    refine JQ.seq ?_
    refine JC.seq ?_
    refine JC.region ?_
    refine JL.pure rfl (PO.move (v := .slice a l.length c) he_2) ?_
    refine JL.pure rfl (PO.move (v := .int .i64 ((j : Nat) : Int)) he_5) ?_
    refine JL.pure rfl (PO.move (v := .int .i64 (((k + 3 * j) + 1 : Nat) : Int)) rfl) ?_
    refine JL.pure rfl (PO.indexAddrV (i := j) Tryz.underlying58 Tryz.sizeOf154 hr_7 hr_7b rfl rfl (by omega)) ?_
    refine JL.pure rfl (PO.fieldAddrE fo154_1 hr_7 rfl) ?_
    refine JL.op rfl (JO.storeR 0 (vs := [.int .i64 (((k + 3 * j) + 1 : Nat) : Int)]) (cs' := (((markG mkA 3 l k).take j ++ l.drop j).set j (⟨((k + 3 * j : Nat) : Int), (((k + 3 * j) + 1 : Nat) : Int), (((markG mkA 3 l k).take j ++ l.drop j).getD j a0_).text⟩ : AN)).flatMap encA) rfl rfl rfl rfl Tryz.sizeOf3 rfl rfl (by decide) (by rw [flat_length encA_len]; (try rw [List.length_set]); rw [markG_lenj mkA 3 hj]; omega) (flat_set1s encA_len a0_ (f := 1) (x := (⟨((k + 3 * j : Nat) : Int), (((markG mkA 3 l k).take j ++ l.drop j).getD j a0_).n, (((markG mkA 3 l k).take j ++ l.drop j).getD j a0_).text⟩ : AN)) (y := (⟨((k + 3 * j : Nat) : Int), (((k + 3 * j) + 1 : Nat) : Int), (((markG mkA 3 l k).take j ++ l.drop j).getD j a0_).text⟩ : AN)) (by rw [markG_lenj mkA 3 hj]; omega) (by decide) rfl)) ?_
    rintro _ _ rfl
    refine JL.nil ?_
    refine JQ.seq ?_
    refine JC.seq ?_
    refine JC.region ?_
    refine JL.pure rfl (PO.move (v := .int .i64 (((k + 3 * j) + 1 : Nat) : Int)) rfl) ?_
    refine JL.pure rfl (PO.add (c := ((((k + 3 * j) + 1) + 1 : Nat) : Int)) rfl rfl (wr (by omega))) ?_
    refine JL.pure rfl (PO.assign (v := .int .i64 ((((k + 3 * j) + 1) + 1 : Nat) : Int)) rfl) ?_
    refine JL.nil ?_
    refine JQ.seq ?_
    refine JC.seq ?_
    refine JC.region ?_
    refine JL.pure rfl (PO.move (v := .slice a l.length c) he_2) ?_
    refine JL.pure rfl (PO.move (v := .int .i64 ((j : Nat) : Int)) he_5) ?_
    refine JL.pure rfl (PO.move (v := .int .i64 ((((k + 3 * j) + 1) + 1 : Nat) : Int)) rfl) ?_
    refine JL.op rfl (JO.call [] Tryz.call102 rfl (C_markText (((k + 3 * j) + 1) + 1) (by omega) (by omega)) rfl (fun _ _ => trivial)) ?_
    rintro _ _ ⟨_, ⟨rfl, rfl⟩, rfl⟩
    refine JL.pure rfl (PO.indexAddrV (i := j) Tryz.underlying58 Tryz.sizeOf154 hr_7 hr_7b rfl rfl (by omega)) ?_
    refine JL.pure rfl (PO.fieldAddrE fo154_2 hr_7 rfl) ?_
    refine JL.op rfl (JO.storeR 0 (vs := [str (mt (((k + 3 * j) + 1) + 1))]) (cs' := (((markG mkA 3 l k).take j ++ l.drop j).set j (⟨((k + 3 * j : Nat) : Int), (((k + 3 * j) + 1 : Nat) : Int), mt (((k + 3 * j) + 1) + 1)⟩ : AN)).flatMap encA) rfl rfl rfl rfl Tryz.sizeOf9 rfl rfl (by decide) (by rw [flat_length encA_len]; (try rw [List.length_set]); rw [markG_lenj mkA 3 hj]; omega) (flat_set1s encA_len a0_ (f := 2) (x := (⟨((k + 3 * j : Nat) : Int), (((k + 3 * j) + 1 : Nat) : Int), (((markG mkA 3 l k).take j ++ l.drop j).getD j a0_).text⟩ : AN)) (y := (⟨((k + 3 * j : Nat) : Int), (((k + 3 * j) + 1 : Nat) : Int), mt (((k + 3 * j) + 1) + 1)⟩ : AN)) (by rw [markG_lenj mkA 3 hj]; omega) (by decide) rfl)) ?_
    rintro _ _ rfl
    refine JL.nil ?_
    refine JQ.seq ?_
    refine JC.region ?_
    refine JL.pure rfl (PO.move (v := .int .i64 ((((k + 3 * j) + 1) + 1 : Nat) : Int)) rfl) ?_
    refine JL.pure rfl (PO.add (c := (((((k + 3 * j) + 1) + 1) + 1 : Nat) : Int)) rfl rfl (wr (by omega))) ?_
    refine JL.pure rfl (PO.assign (v := .int .i64 (((((k + 3 * j) + 1) + 1) + 1 : Nat) : Int)) rfl) ?_
    refine JL.nil ?_
    refine JQ.blockN ?_
    refine JQ.seq ?_
    refine JC.region ?_
    refine JL.pure rfl (PO.move (v := .int .i64 ((j : Nat) : Int)) he_5) ?_
    refine JL.pure rfl (PO.add (c := ((j + 1 : Nat) : Int)) rfl rfl (wr (by omega))) ?_
    refine JL.pure rfl (PO.assign (v := .int .i64 ((j + 1 : Nat) : Int)) rfl) ?_
    refine JL.nil ?_
    refine JQ.again (l.length - (j + 1)) (by omega) ⟨j + 1, by omega, he_2, rfl, he_4, rfl, (by rw [← markG_step mkA 3 hlt]; rfl), rfl⟩
  · skip
    refine JC.condF (congrArg Value.bool (decide_eq_false h_6)) ?_
    refine JC.exit ?_
    refine JQ.thenExit ?_
    refine JQ.thenExit ?_
    refine JQ.blockE ?_
    refine JQ.seq ?_
    refine JC.seq ?_
    refine JC.region ?_
    refine JL.pure rfl (PO.move (v := .int .i64 ((k + 3 * j : Nat) : Int)) he_3) ?_
    refine JL.pure rfl (PO.assign (v := .int .i64 ((k + 3 * j : Nat) : Int)) rfl) ?_
    refine JL.nil ?_
    refine JQ.seq ?_
    refine JC.ret ?_
    refine Done.one (.inl rfl) rfl (RV.tmp (v := .int .i64 ((k + 3 * j : Nat) : Int)) rfl) (List.Sublist.refl _) ?_
    exact ⟨by rw [show j = l.length by omega], by rw [show j = l.length by omega, List.drop_of_length_le (Nat.le_refl _), List.append_nil, List.take_of_length_le (by rw [markG_len]; exact Nat.le_refl _)]⟩

theorem C_heldAnswerS (a : Option Addr) (c : Nat) (l : List AN) (k : Nat) (h0 : 0 < k) (h1 : k + 3 * l.length ≤ 100000000) :
    Ct Tryz.prog 106 [.slice a l.length c, .int .i64 ((k : Nat) : Int)] [] (fun w => Sees w (.slice a l.length c) 3 l.length ((markG mkA 3 l k).flatMap encA)) (fun v A' => v = .int .i64 ((k + 3 * l.length : Nat) : Int) ∧ A' = []) := by
  refine Ct.intro Tryz.func106 rfl Tryz.ntmps106 (Nat.le_of_ble_eq_true rfl) fun w0 hpre => ?_
  have hs_a : Sees w0 _ _ _ _ := hpre
  refine JC.seq ?_
  refine JC.region ?_
  refine JL.pure rfl (PO.assign (v := .int .i64 0) rfl) ?_
  refine JL.nil ?_
  refine JQ.seq ?_
  refine JC.seq ?_
  refine JC.seq ?_
  refine JC.region ?_
  refine JL.pure rfl (PO.assign (v := .int .i64 0) rfl) ?_
  refine JL.nil ?_
  refine JQ.seq ?_
  refine JC.block ?_
  refine JC.loop (fun k_ e_ L_ => ∃ j : Nat, (j ≤ l.length) ∧ e_ 0 = .slice a l.length c ∧ e_ 1 = .int .i64 ((k + 3 * j : Nat) : Int) ∧ e_ 5 = .int .i64 ((j : Nat) : Int) ∧ L_ = [] ∧ k_ = l.length - j) _ ⟨0, by omega, rfl, rfl, rfl, rfl, rfl⟩ ?_
  rintro _ e_1 _ ⟨j, hj, he_2, he_3, he_4, rfl, rfl⟩
  refine JC.seq ?_
  refine JC.seq ?_
  refine JC.region ?_
  refine JL.pure rfl (PO.move (v := .int .i64 ((j : Nat) : Int)) he_4) ?_
  refine JL.pure rfl (PO.move (v := .slice a l.length c) he_2) ?_
  refine JL.pure rfl (PO.lenV Tryz.underlying58 rfl) ?_
  refine JL.pure rfl (PO.lss rfl rfl) ?_
  refine JL.nil ?_
  refine JQ.seq ?_
  by_cases h_5 : ((j : Nat) : Int) < ((l.length : Nat) : Int)
  · skip
    have hlt : j < l.length := by omega
    refine JC.condT (congrArg Value.bool (decide_eq_true h_5)) ?_
    refine JC.skip ?_
    refine JQ.seq ?_
    refine JC.seq ?_
    refine JC.block ?_
    refine JC.seq ?_
    refine JC.seq ?_
    refine JC.region ?_
    refine JL.pure rfl (PO.move (v := .slice a l.length c) he_2) ?_
    refine JL.pure rfl (PO.move (v := .int .i64 ((j : Nat) : Int)) he_4) ?_
    obtain ⟨hr_6, hr_6b, -⟩ := sees_some hs_a (by omega)
    refine JL.pure rfl (PO.indexAddrV (i := j) Tryz.underlying58 Tryz.sizeOf154 hr_6 hr_6b rfl rfl (by omega)) ?_
    refine JL.pure rfl (PO.fieldAddrE fo154_0 hr_6 rfl) ?_
    refine JL.ld rfl (LO.loadS1 (v := .int .i64 (((markG mkA 3 l k).getD j a0_).code)) hs_a (fun _ _ => List.not_mem_nil) rfl Tryz.isAgg3 (flat_at encA_len a0_ (markG mkA 3 l k) j 0 (by rw [markG_len]; omega) (by decide))) ?_
    refine JL.pure rfl (PO.move (v := .int .i64 ((k + 3 * j : Nat) : Int)) he_3) ?_
    refine JL.pure rfl (PO.neqI rfl rfl) ?_
    refine JL.nil ?_
    refine JQ.seq ?_
    by_cases h_7 : (((markG mkA 3 l k).getD j a0_).code) = ((k + 3 * j : Nat) : Int)
    · skip
      refine JC.condF (congrArg Value.bool (congrArg Bool.not (decide_eq_true h_7))) ?_
      refine JC.skip ?_
      refine JQ.seq ?_
      refine JC.seq ?_
      refine JC.region ?_
      refine JL.pure rfl (PO.move (v := .int .i64 ((k + 3 * j : Nat) : Int)) he_3) ?_
      refine JL.pure rfl (PO.add (c := (((k + 3 * j) + 1 : Nat) : Int)) rfl rfl (wr (by omega))) ?_
      refine JL.pure rfl (PO.assign (v := .int .i64 (((k + 3 * j) + 1 : Nat) : Int)) rfl) ?_
      refine JL.nil ?_
      refine JQ.seq ?_
      refine JC.seq ?_
      refine JC.seq ?_
      refine JC.region ?_
      refine JL.pure rfl (PO.move (v := .slice a l.length c) he_2) ?_
      refine JL.pure rfl (PO.move (v := .int .i64 ((j : Nat) : Int)) he_4) ?_
      refine JL.pure rfl (PO.indexAddrV (i := j) Tryz.underlying58 Tryz.sizeOf154 hr_6 hr_6b rfl rfl (by omega)) ?_
      refine JL.pure rfl (PO.fieldAddrE fo154_1 hr_6 rfl) ?_
      refine JL.ld rfl (LO.loadS1 (v := .int .i64 (((markG mkA 3 l k).getD j a0_).n)) hs_a (fun _ _ => List.not_mem_nil) rfl Tryz.isAgg3 (flat_at encA_len a0_ (markG mkA 3 l k) j 1 (by rw [markG_len]; omega) (by decide))) ?_
      refine JL.pure rfl (PO.move (v := .int .i64 (((k + 3 * j) + 1 : Nat) : Int)) rfl) ?_
      refine JL.pure rfl (PO.neqI rfl rfl) ?_
      refine JL.nil ?_
      refine JQ.seq ?_
      by_cases h_8 : (((markG mkA 3 l k).getD j a0_).n) = (((k + 3 * j) + 1 : Nat) : Int)
      · skip
        refine JC.condF (congrArg Value.bool (congrArg Bool.not (decide_eq_true h_8))) ?_
        refine JC.skip ?_
        refine JQ.seq ?_
        refine JC.seq ?_
        refine JC.region ?_
        refine JL.pure rfl (PO.move (v := .int .i64 (((k + 3 * j) + 1 : Nat) : Int)) rfl) ?_
        refine JL.pure rfl (PO.add (c := ((((k + 3 * j) + 1) + 1 : Nat) : Int)) rfl rfl (wr (by omega))) ?_
        refine JL.pure rfl (PO.assign (v := .int .i64 ((((k + 3 * j) + 1) + 1 : Nat) : Int)) rfl) ?_
        refine JL.nil ?_
        refine JQ.seq ?_
        refine JC.seq ?_
        refine JC.seq ?_
        refine JC.regionA [] 7 mixed (by simp) ?_
        refine JA.takeP 0 rfl (by kernel_rfl) (NP.th (NP.th (NP.bl (NP.th (NP.th (NP.bl (NP.th NP.body))))))) (by kernel_rfl) (by kernel_rfl) rfl (PO.move (v := .slice a l.length c) he_2) ?_
        refine JA.takeP 1 rfl (by kernel_rfl) (NP.th (NP.th (NP.bl (NP.th (NP.th (NP.bl (NP.th NP.body))))))) (by kernel_rfl) (by kernel_rfl) rfl (PO.move (v := .int .i64 ((j : Nat) : Int)) he_4) ?_
        refine JA.takeP 2 rfl (by kernel_rfl) (NP.th (NP.th (NP.bl (NP.th (NP.th (NP.bl (NP.th NP.body))))))) (by kernel_rfl) (by kernel_rfl) rfl (PO.indexAddrV (i := j) Tryz.underlying58 Tryz.sizeOf154 hr_6 hr_6b rfl rfl (by omega)) ?_
        refine JA.takeP 3 rfl (by kernel_rfl) (NP.th (NP.th (NP.bl (NP.th (NP.th (NP.bl (NP.th NP.body))))))) (by kernel_rfl) (by kernel_rfl) rfl (PO.fieldAddrE fo154_2 hr_6 rfl) ?_
        refine JA.take 4 rfl (by kernel_rfl) (NP.th (NP.th (NP.bl (NP.th (NP.th (NP.bl (NP.th NP.body))))))) (by kernel_rfl) (by kernel_rfl) (by kernel_rfl) rfl (LO.loadS1 (v := str (((markG mkA 3 l k).getD j a0_).text)) hs_a (fun _ _ => List.not_mem_nil) rfl Tryz.isAgg9 (flat_at encA_len a0_ (markG mkA 3 l k) j 2 (by rw [markG_len]; omega) (by decide))) ?_
        refine JA.takeP 5 rfl (by kernel_rfl) (NP.th (NP.th (NP.bl (NP.th (NP.th (NP.bl (NP.th NP.body))))))) (by kernel_rfl) (by kernel_rfl) rfl (PO.move (v := .int .i64 ((((k + 3 * j) + 1) + 1 : Nat) : Int)) rfl) ?_
        refine JA.one (i := 6) (by kernel_rfl) ?_
        refine JX.op rfl rfl (JO.call [] Tryz.call102 rfl (C_markText (((k + 3 * j) + 1) + 1) (by omega) (by omega)) rfl (fun _ _ => trivial)) ?_
        rintro _ _ ⟨_, ⟨rfl, rfl⟩, rfl⟩
        refine ⟨(fun _ h => by cases h), ?_⟩
        refine JA.takeP 7 rfl (by kernel_rfl) (NP.th (NP.th (NP.bl (NP.th (NP.th (NP.bl (NP.th NP.body))))))) (by kernel_rfl) (by kernel_rfl) rfl (PO.neqS rfl rfl) ?_
        refine JA.done (by kernel_rfl) ?_
        refine JQ.seq ?_
        by_cases h_9 : (((markG mkA 3 l k).getD j a0_).text) = (mt (((k + 3 * j) + 1) + 1))
        · skip
          refine JC.condF (congrArg Value.bool (congrArg Bool.not (decide_eq_true h_9))) ?_
          refine JC.skip ?_
          refine JQ.seq ?_
          refine JC.region ?_
          refine JL.pure rfl (PO.move (v := .int .i64 ((((k + 3 * j) + 1) + 1 : Nat) : Int)) rfl) ?_
          refine JL.pure rfl (PO.add (c := (((((k + 3 * j) + 1) + 1) + 1 : Nat) : Int)) rfl rfl (wr (by omega))) ?_
          refine JL.pure rfl (PO.assign (v := .int .i64 (((((k + 3 * j) + 1) + 1) + 1 : Nat) : Int)) rfl) ?_
          refine JL.nil ?_
          refine JQ.blockN ?_
          refine JQ.seq ?_
          refine JC.region ?_
          refine JL.pure rfl (PO.move (v := .int .i64 ((j : Nat) : Int)) he_4) ?_
          refine JL.pure rfl (PO.add (c := ((j + 1 : Nat) : Int)) rfl rfl (wr (by omega))) ?_
          refine JL.pure rfl (PO.assign (v := .int .i64 ((j + 1 : Nat) : Int)) rfl) ?_
          refine JL.nil ?_
          refine JQ.again (l.length - (j + 1)) (by omega) ⟨j + 1, by omega, he_2, rfl, rfl, rfl, rfl⟩
        · skip
          exfalso; rw [markG_get mkA 3 a0_ l k j hlt] at h_9; first | omega | exact h_9 rfl
      · skip
        exfalso; rw [markG_get mkA 3 a0_ l k j hlt] at h_8; first | omega | exact h_8 rfl
    · skip
      exfalso; rw [markG_get mkA 3 a0_ l k j hlt] at h_7; first | omega | exact h_7 rfl
  · skip
    refine JC.condF (congrArg Value.bool (decide_eq_false h_5)) ?_
    refine JC.exit ?_
    refine JQ.thenExit ?_
    refine JQ.thenExit ?_
    refine JQ.blockE ?_
    refine JQ.seq ?_
    refine JC.seq ?_
    refine JC.region ?_
    refine JL.pure rfl (PO.move (v := .int .i64 ((k + 3 * j : Nat) : Int)) he_3) ?_
    refine JL.pure rfl (PO.assign (v := .int .i64 ((k + 3 * j : Nat) : Int)) rfl) ?_
    refine JL.nil ?_
    refine JQ.seq ?_
    refine JC.ret ?_
    refine Done.one (.inl rfl) rfl (RV.tmp (v := .int .i64 ((k + 3 * j : Nat) : Int)) rfl) (List.nil_sublist _) ?_
    exact ⟨by rw [show j = l.length by omega], rfl⟩

theorem N_toStep (c : SP) :
    Ct Tryz.prog 153 [.agg #[.int .i64 c.proc, .int .i64 c.call.kind, str c.call.name, str c.call.to_, .int .i64 c.call.a, .int .i64 c.call.b, str c.call.text]] [] (fun _ => True) (fun v A' => v = .agg #[.int .i64 c.proc, .int .i64 c.call.kind, str c.call.name, str c.call.to_, .int .i64 c.call.a, .int .i64 c.call.b, str c.call.text] ∧ A' = []) := by
  refine Ct.intro Tryz.func153 rfl Tryz.ntmps153 (Nat.le_of_ble_eq_true rfl) fun w0 hpre => ?_
  refine JC.seq ?_
  refine JC.region ?_
  refine JL.op rfl (JO.box (cs := [.int .i64 c.proc, .int .i64 c.call.kind, str c.call.name, str c.call.to_, .int .i64 c.call.a, .int .i64 c.call.b, str c.call.text]) rfl rfl) ?_
  rintro _ _ ⟨b_1, rfl, rfl⟩
  refine JL.op rfl (JO.alloc (z := .agg #[.int .i64 0, .int .i64 0, str [], str [], .int .i64 0, .int .i64 0, str []]) (cs := [.int .i64 0, .int .i64 0, str [], str [], .int .i64 0, .int .i64 0, str []]) Tryz.zeroValue179 rfl) ?_
  rintro _ _ ⟨b_2, rfl, rfl⟩
  refine JL.nil ?_
  refine JQ.seq ?_
  refine JC.seq ?_
  refine JC.region ?_
  refine JL.op rfl (JO.alloc (z := .agg #[.int .i64 0, .int .i64 0, str [], str [], .int .i64 0, .int .i64 0, str []]) (cs := [.int .i64 0, .int .i64 0, str [], str [], .int .i64 0, .int .i64 0, str []]) Tryz.zeroValue179 rfl) ?_
  rintro _ _ ⟨b_3, rfl, rfl⟩
  refine JL.nil ?_
  refine JQ.seq ?_
  refine JC.seq ?_
  refine JC.region ?_
  refine JL.pure rfl (PO.fieldAddr fo188_0 rfl) ?_
  refine JL.ld rfl (LO.load1 2 (v := .int .i64 c.proc) rfl rfl Tryz.isAgg3 rfl) ?_
  refine JL.pure rfl (PO.fieldAddr fo179_0 rfl) ?_
  refine JL.op rfl (JO.store 0 (vs := [.int .i64 c.proc]) (cs' := [.int .i64 c.proc, .int .i64 0, str [], str [], .int .i64 0, .int .i64 0, str []]) rfl rfl rfl rfl Tryz.sizeOf3 rfl rfl (Nat.le_of_ble_eq_true rfl) rfl) ?_
  rintro _ _ rfl
  refine JL.nil ?_
  refine JQ.seq ?_
  refine JC.seq ?_
  refine JC.region ?_
  refine JL.pure rfl (PO.fieldAddr fo188_1 rfl) ?_
  refine JL.ld rfl (LO.loadK 2 (vs := [.int .i64 c.call.kind, str c.call.name, str c.call.to_, .int .i64 c.call.a, .int .i64 c.call.b, str c.call.text]) rfl rfl Tryz.isAgg148 Tryz.sizeOf148 rfl rfl) ?_
  refine JL.op rfl (JO.call [] Tryz.call112 rfl (N_toCall c.call) rfl (fun _ _ => trivial)) ?_
  rintro _ _ ⟨_, ⟨rfl, rfl⟩, rfl⟩
  refine JL.pure rfl (PO.fieldAddr fo179_1 rfl) ?_
  refine JL.op rfl (JO.store 0 (vs := [.int .i64 c.call.kind, str c.call.name, str c.call.to_, .int .i64 c.call.a, .int .i64 c.call.b, str c.call.text]) (cs' := [.int .i64 c.proc, .int .i64 c.call.kind, str c.call.name, str c.call.to_, .int .i64 c.call.a, .int .i64 c.call.b, str c.call.text]) rfl rfl rfl rfl Tryz.sizeOf152 rfl rfl (Nat.le_of_ble_eq_true rfl) rfl) ?_
  rintro _ _ rfl
  refine JL.nil ?_
  refine JQ.seq ?_
  refine JC.seq ?_
  refine JC.region ?_
  refine JL.ld rfl (LO.loadK 0 (vs := [.int .i64 c.proc, .int .i64 c.call.kind, str c.call.name, str c.call.to_, .int .i64 c.call.a, .int .i64 c.call.b, str c.call.text]) rfl rfl Tryz.isAgg179 Tryz.sizeOf179 rfl rfl) ?_
  refine JL.op rfl (JO.store 1 (vs := [.int .i64 c.proc, .int .i64 c.call.kind, str c.call.name, str c.call.to_, .int .i64 c.call.a, .int .i64 c.call.b, str c.call.text]) (cs' := [.int .i64 c.proc, .int .i64 c.call.kind, str c.call.name, str c.call.to_, .int .i64 c.call.a, .int .i64 c.call.b, str c.call.text]) rfl rfl rfl rfl Tryz.sizeOf179 rfl rfl (Nat.le_of_ble_eq_true rfl) rfl) ?_
  rintro _ _ rfl
  refine JL.nil ?_
  refine JQ.seq ?_
  refine JC.ret ?_
  refine Done.one (.inl rfl) rfl (RV.cell1 (LO.loadK 1 (vs := [.int .i64 c.proc, .int .i64 c.call.kind, str c.call.name, str c.call.to_, .int .i64 c.call.a, .int .i64 c.call.b, str c.call.text]) rfl rfl Tryz.isAgg179 Tryz.sizeOf179 rfl rfl) ⟨_, rfl⟩) (List.nil_sublist _) ?_
  exact ⟨rfl, rfl⟩

theorem C_eqStep (a b : SP) :
    Ct Tryz.prog 154 [.agg #[.int .i64 a.proc, .int .i64 a.call.kind, str a.call.name, str a.call.to_, .int .i64 a.call.a, .int .i64 a.call.b, str a.call.text], .agg #[.int .i64 b.proc, .int .i64 b.call.kind, str b.call.name, str b.call.to_, .int .i64 b.call.a, .int .i64 b.call.b, str b.call.text]] [] (fun _ => True) (fun v A' => v = .bool (decide (a = b)) ∧ A' = []) := by
  refine Ct.intro Tryz.func154 rfl Tryz.ntmps154 (Nat.le_of_ble_eq_true rfl) fun w0 hpre => ?_
  refine JC.seq ?_
  refine JC.region ?_
  refine JL.op rfl (JO.box (cs := [.int .i64 a.proc, .int .i64 a.call.kind, str a.call.name, str a.call.to_, .int .i64 a.call.a, .int .i64 a.call.b, str a.call.text]) rfl rfl) ?_
  rintro _ _ ⟨b_1, rfl, rfl⟩
  refine JL.op rfl (JO.box (cs := [.int .i64 b.proc, .int .i64 b.call.kind, str b.call.name, str b.call.to_, .int .i64 b.call.a, .int .i64 b.call.b, str b.call.text]) rfl rfl) ?_
  rintro _ _ ⟨b_2, rfl, rfl⟩
  refine JL.pure rfl (PO.assign (v := .bool false) rfl) ?_
  refine JL.nil ?_
  refine JQ.seq ?_
  refine JC.seq ?_
  refine JC.seq ?_
  refine JC.region ?_
  refine JL.pure rfl (PO.fieldAddr fo179_0 rfl) ?_
  refine JL.ld rfl (LO.load1 1 (v := .int .i64 a.proc) rfl rfl Tryz.isAgg3 rfl) ?_
  refine JL.pure rfl (PO.fieldAddr fo179_0 rfl) ?_
  refine JL.ld rfl (LO.load1 0 (v := .int .i64 b.proc) rfl rfl Tryz.isAgg3 rfl) ?_
  refine JL.pure rfl (PO.neqI rfl rfl) ?_
  refine JL.nil ?_
  refine JQ.seq ?_
  by_cases h_3 : a.proc = b.proc
  · skip
    refine JC.condF (congrArg Value.bool (congrArg Bool.not (decide_eq_true h_3))) ?_
    refine JC.skip ?_
    refine JQ.seq ?_
    refine JC.seq ?_
    refine JC.seq ?_
    refine JC.region ?_
    refine JL.pure rfl (PO.fieldAddr fo179_1 rfl) ?_
    refine JL.ld rfl (LO.loadK 1 (vs := [.int .i64 a.call.kind, str a.call.name, str a.call.to_, .int .i64 a.call.a, .int .i64 a.call.b, str a.call.text]) rfl rfl Tryz.isAgg152 Tryz.sizeOf152 rfl rfl) ?_
    refine JL.pure rfl (PO.fieldAddr fo179_1 rfl) ?_
    refine JL.ld rfl (LO.loadK 0 (vs := [.int .i64 b.call.kind, str b.call.name, str b.call.to_, .int .i64 b.call.a, .int .i64 b.call.b, str b.call.text]) rfl rfl Tryz.isAgg152 Tryz.sizeOf152 rfl rfl) ?_
    refine JL.op rfl (JO.call [] Tryz.call120 rfl (C_eqCall a.call b.call) rfl (fun _ _ => trivial)) ?_
    rintro _ _ ⟨_, ⟨rfl, rfl⟩, rfl⟩
    refine JL.pure rfl (PO.not rfl) ?_
    refine JL.nil ?_
    refine JQ.seq ?_
    by_cases h_4 : a.call = b.call
    · skip
      refine JC.condF (congrArg Value.bool (congrArg Bool.not (decide_eq_true h_4))) ?_
      refine JC.skip ?_
      refine JQ.seq ?_
      refine JC.seq ?_
      refine JC.region ?_
      refine JL.pure rfl (PO.assign (v := .bool true) rfl) ?_
      refine JL.nil ?_
      refine JQ.seq ?_
      refine JC.ret ?_
      refine Done.one (.inl rfl) rfl (RV.tmp (v := .bool true) rfl) (List.nil_sublist _) ?_
      refine ⟨congrArg Value.bool ?_, rfl⟩
      exact (decide_eq_true (by cases a; cases b; simp_all)).symm
    · skip
      refine JC.condT (congrArg Value.bool (congrArg Bool.not (decide_eq_false h_4))) ?_
      refine JC.seq ?_
      refine JC.region ?_
      refine JL.pure rfl (PO.assign (v := .bool false) rfl) ?_
      refine JL.nil ?_
      refine JQ.seq ?_
      refine JC.ret ?_
      refine JQ.thenRet ?_
      refine Done.one (.inl rfl) rfl (RV.tmp (v := .bool false) rfl) (List.nil_sublist _) ?_
      refine ⟨congrArg Value.bool ?_, rfl⟩
      exact (decide_eq_false (fun h_ => by subst h_; simp_all)).symm
  · skip
    refine JC.condT (congrArg Value.bool (congrArg Bool.not (decide_eq_false h_3))) ?_
    refine JC.seq ?_
    refine JC.region ?_
    refine JL.pure rfl (PO.assign (v := .bool false) rfl) ?_
    refine JL.nil ?_
    refine JQ.seq ?_
    refine JC.ret ?_
    refine JQ.thenRet ?_
    refine Done.one (.inl rfl) rfl (RV.tmp (v := .bool false) rfl) (List.nil_sublist _) ?_
    refine ⟨congrArg Value.bool ?_, rfl⟩
    exact (decide_eq_false (fun h_ => by subst h_; simp_all)).symm

theorem C_eqStepS (a b : Option Addr) (c c' : Nat) (s t : List SP) (hn : s.length ≤ 9223372036854775807) :
    Ct Tryz.prog 144 [.slice a s.length c, .slice b t.length c'] [] (fun w => Sees w (.slice a s.length c) 7 s.length (s.flatMap encP) ∧ Sees w (.slice b t.length c') 7 t.length (t.flatMap encP)) (fun r A' => r = .bool (decide (s = t)) ∧ A' = []) := by
  refine Ct.intro Tryz.func144 rfl Tryz.ntmps144 (Nat.le_of_ble_eq_true rfl) fun w0 hpre => ?_
  have hs_a : Sees w0 _ _ _ _ := hpre.1
  have hs_b : Sees w0 _ _ _ _ := hpre.2
  refine JC.seq ?_
  refine JC.region ?_
  refine JL.pure rfl (PO.assign (v := .bool false) rfl) ?_
  refine JL.nil ?_
  refine JQ.seq ?_
  refine JC.seq ?_
  refine JC.seq ?_
  refine JC.region ?_
  refine JL.pure rfl (PO.move (v := .slice a s.length c) rfl) ?_
  refine JL.pure rfl (PO.lenV Tryz.underlying127 rfl) ?_
  refine JL.pure rfl (PO.move (v := .slice b t.length c') rfl) ?_
  refine JL.pure rfl (PO.lenV Tryz.underlying127 rfl) ?_
  refine JL.pure rfl (PO.neqI rfl rfl) ?_
  refine JL.nil ?_
  refine JQ.seq ?_
  by_cases h_1 : ((s.length : Nat) : Int) = ((t.length : Nat) : Int)
  · skip
    have hlen := h_1
    refine JC.condF (congrArg Value.bool (congrArg Bool.not (decide_eq_true h_1))) ?_
    refine JC.skip ?_
    refine JQ.seq ?_
    refine JC.seq ?_
    refine JC.seq ?_
    refine JC.region ?_
    refine JL.pure rfl (PO.assign (v := .int .i64 0) rfl) ?_
    refine JL.nil ?_
    refine JQ.seq ?_
    refine JC.block ?_
    refine JC.loop (fun k_ e_ L_ => ∃ j : Nat, (j ≤ s.length) ∧ (s.take j = t.take j) ∧ (s.length = t.length) ∧ e_ 0 = .slice a s.length c ∧ e_ 1 = .slice b t.length c' ∧ e_ 5 = .int .i64 ((j : Nat) : Int) ∧ L_ = [] ∧ k_ = s.length - j) _ ⟨0, by omega, rfl, by omega, rfl, rfl, rfl, rfl, rfl⟩ ?_
    rintro _ e_2 _ ⟨j, hj, hE, hln, he_3, he_4, he_5, rfl, rfl⟩
    refine JC.seq ?_
    refine JC.seq ?_
    refine JC.region ?_
    refine JL.pure rfl (PO.move (v := .int .i64 ((j : Nat) : Int)) he_5) ?_
    refine JL.pure rfl (PO.move (v := .slice a s.length c) he_3) ?_
    refine JL.pure rfl (PO.lenV Tryz.underlying127 rfl) ?_
    refine JL.pure rfl (PO.lss rfl rfl) ?_
    refine JL.nil ?_
    refine JQ.seq ?_
    by_cases h_6 : ((j : Nat) : Int) < ((s.length : Nat) : Int)
    · skip
      have hlt : j < s.length := by omega
      refine JC.condT (congrArg Value.bool (decide_eq_true h_6)) ?_
      refine JC.skip ?_
      refine JQ.seq ?_
      refine JC.seq ?_
      refine JC.block ?_
      refine JC.seq ?_
      refine JC.regionA [] 1000 mixed (by simp) ?_
      refine JA.takeP 0 rfl (by kernel_rfl) (NP.th (NP.bl (NP.th (NP.th (NP.bl (NP.th NP.body)))))) (by kernel_rfl) (by kernel_rfl) rfl (PO.move (v := .slice a s.length c) he_3) ?_
      refine JA.takeP 1 rfl (by kernel_rfl) (NP.th (NP.bl (NP.th (NP.th (NP.bl (NP.th NP.body)))))) (by kernel_rfl) (by kernel_rfl) rfl (PO.move (v := .int .i64 ((j : Nat) : Int)) he_5) ?_
      obtain ⟨hr_7, hr_7b, -⟩ := sees_some hs_a (by omega)
      refine JA.takeP 2 rfl (by kernel_rfl) (NP.th (NP.bl (NP.th (NP.th (NP.bl (NP.th NP.body)))))) (by kernel_rfl) (by kernel_rfl) rfl (PO.indexAddrV (i := j) Tryz.underlying127 Tryz.sizeOf179 hr_7 hr_7b rfl rfl (by omega)) ?_
      refine JA.take 3 rfl (by kernel_rfl) (NP.th (NP.bl (NP.th (NP.th (NP.bl (NP.th NP.body)))))) (by kernel_rfl) (by kernel_rfl) (by kernel_rfl) rfl (LO.loadSK (vs := [.int .i64 ((s.getD j p0_).proc), .int .i64 ((s.getD j p0_).call.kind), str ((s.getD j p0_).call.name), str ((s.getD j p0_).call.to_), .int .i64 ((s.getD j p0_).call.a), .int .i64 ((s.getD j p0_).call.b), str ((s.getD j p0_).call.text)]) hs_a (fun _ _ => List.not_mem_nil) rfl Tryz.isAgg179 Tryz.sizeOf179 (flat_take encP_len p0_ s j (by omega)) rfl (by decide)) ?_
      refine JA.takeP 4 rfl (by kernel_rfl) (NP.th (NP.bl (NP.th (NP.th (NP.bl (NP.th NP.body)))))) (by kernel_rfl) (by kernel_rfl) rfl (PO.move (v := .slice b t.length c') he_4) ?_
      refine JA.takeP 5 rfl (by kernel_rfl) (NP.th (NP.bl (NP.th (NP.th (NP.bl (NP.th NP.body)))))) (by kernel_rfl) (by kernel_rfl) rfl (PO.move (v := .int .i64 ((j : Nat) : Int)) he_5) ?_
      obtain ⟨hr_8, hr_8b, -⟩ := sees_some hs_b (by omega)
      refine JA.takeP 6 rfl (by kernel_rfl) (NP.th (NP.bl (NP.th (NP.th (NP.bl (NP.th NP.body)))))) (by kernel_rfl) (by kernel_rfl) rfl (PO.indexAddrV (i := j) Tryz.underlying127 Tryz.sizeOf179 hr_8 hr_8b rfl rfl (by omega)) ?_
      refine JA.take 7 rfl (by kernel_rfl) (NP.th (NP.bl (NP.th (NP.th (NP.bl (NP.th NP.body)))))) (by kernel_rfl) (by kernel_rfl) (by kernel_rfl) rfl (LO.loadSK (vs := [.int .i64 ((t.getD j p0_).proc), .int .i64 ((t.getD j p0_).call.kind), str ((t.getD j p0_).call.name), str ((t.getD j p0_).call.to_), .int .i64 ((t.getD j p0_).call.a), .int .i64 ((t.getD j p0_).call.b), str ((t.getD j p0_).call.text)]) hs_b (fun _ _ => List.not_mem_nil) rfl Tryz.isAgg179 Tryz.sizeOf179 (flat_take encP_len p0_ t j (by omega)) rfl (by decide)) ?_
      refine JA.one (i := 8) (by kernel_rfl) ?_
      refine JX.op rfl rfl (JO.call [] Tryz.call154 rfl (C_eqStep (⟨(s.getD j p0_).proc, (s.getD j p0_).call⟩ : SP) (⟨(t.getD j p0_).proc, (t.getD j p0_).call⟩ : SP)) rfl (fun _ _ => trivial)) ?_
      rintro _ _ ⟨_, ⟨rfl, rfl⟩, rfl⟩
      refine ⟨(fun _ h => by cases h), ?_⟩
      refine JA.takeP 9 rfl (by kernel_rfl) (NP.th (NP.bl (NP.th (NP.th (NP.bl (NP.th NP.body)))))) (by kernel_rfl) (by kernel_rfl) rfl (PO.not rfl) ?_
      refine JA.done (by kernel_rfl) ?_
      refine JQ.seq ?_
      by_cases h_9 : (⟨(s.getD j p0_).proc, (s.getD j p0_).call⟩ : SP) = (⟨(t.getD j p0_).proc, (t.getD j p0_).call⟩ : SP)
      · skip
        have heq := h_9
        refine JC.condF (congrArg Value.bool (congrArg Bool.not (decide_eq_true h_9))) ?_
        refine JC.skip ?_
        refine JQ.blockN ?_
        refine JQ.seq ?_
        refine JC.region ?_
        refine JL.pure rfl (PO.move (v := .int .i64 ((j : Nat) : Int)) he_5) ?_
        refine JL.pure rfl (PO.add (c := ((j + 1 : Nat) : Int)) rfl rfl (wr (by omega))) ?_
        refine JL.pure rfl (PO.assign (v := .int .i64 ((j + 1 : Nat) : Int)) rfl) ?_
        refine JL.nil ?_
        refine JQ.again (s.length - (j + 1)) (by omega) ⟨j + 1, by omega, take_succ_eq p0_ hE hlt hln heq, hln, he_3, he_4, rfl, rfl, rfl⟩
      · skip
        have hne := h_9
        refine JC.condT (congrArg Value.bool (congrArg Bool.not (decide_eq_false h_9))) ?_
        refine JC.seq ?_
        refine JC.region ?_
        refine JL.pure rfl (PO.assign (v := .bool false) rfl) ?_
        refine JL.nil ?_
        refine JQ.seq ?_
        refine JC.ret ?_
        refine JQ.blockRet ?_
        refine JQ.thenRet ?_
        refine JQ.thenRet ?_
        refine JQ.blockRet ?_
        refine JQ.thenRet ?_
        refine Done.one (.inl rfl) rfl (RV.tmp (v := .bool false) rfl) (List.nil_sublist _) ?_
        refine ⟨?_, rfl⟩
        rw [decide_eq_false (fun h => hne (by rw [h]))]
    · skip
      refine JC.condF (congrArg Value.bool (decide_eq_false h_6)) ?_
      refine JC.exit ?_
      refine JQ.thenExit ?_
      refine JQ.thenExit ?_
      refine JQ.blockE ?_
      refine JQ.seq ?_
      refine JC.seq ?_
      refine JC.region ?_
      refine JL.pure rfl (PO.assign (v := .bool true) rfl) ?_
      refine JL.nil ?_
      refine JQ.seq ?_
      refine JC.ret ?_
      refine Done.one (.inl rfl) rfl (RV.tmp (v := .bool true) rfl) (List.nil_sublist _) ?_
      refine ⟨?_, rfl⟩
      rw [decide_eq_true (take_all_eq hE (by omega) (by omega))]
  · skip
    have hlen := h_1
    refine JC.condT (congrArg Value.bool (congrArg Bool.not (decide_eq_false h_1))) ?_
    refine JC.seq ?_
    refine JC.region ?_
    refine JL.pure rfl (PO.assign (v := .bool false) rfl) ?_
    refine JL.nil ?_
    refine JQ.seq ?_
    refine JC.ret ?_
    refine JQ.thenRet ?_
    refine Done.one (.inl rfl) rfl (RV.tmp (v := .bool false) rfl) (List.nil_sublist _) ?_
    refine ⟨?_, rfl⟩
    rw [decide_eq_false (fun h => by rw [h] at hlen; omega)]

theorem C_markStepS (a : Option Addr) (c : Nat) (l : List SP) (k : Nat) (h0 : 0 < k) (h1 : k + 7 * l.length ≤ 100000000) :
    Ct Tryz.prog 104 [.slice a l.length c, .int .i64 ((k : Nat) : Int)] [Res.row (.slice a l.length c) 179 7 l.length (l.flatMap encP)] (fun _ => True) (fun v A' => v = .int .i64 ((k + 7 * l.length : Nat) : Int) ∧ A' = [.row (.slice a l.length c) 179 7 l.length ((markG mkP 7 l k).flatMap encP)]) := by
  refine Ct.intro Tryz.func104 rfl Tryz.ntmps104 (Nat.le_of_ble_eq_true rfl) fun w0 hpre => ?_
  refine JC.seq ?_
  refine JC.region ?_
  refine JL.pure rfl (PO.assign (v := .int .i64 0) rfl) ?_
  refine JL.nil ?_
  refine JQ.seq ?_
  refine JC.seq ?_
  refine JC.seq ?_
  refine JC.region ?_
  refine JL.pure rfl (PO.assign (v := .int .i64 0) rfl) ?_
  refine JL.nil ?_
  refine JQ.seq ?_
  refine JC.block ?_
  refine JC.loop (fun k_ e_ L_ => ∃ j : Nat, (j ≤ l.length) ∧ e_ 0 = .slice a l.length c ∧ e_ 1 = .int .i64 ((k + 7 * j : Nat) : Int) ∧ e_ 4 = .int .i64 0 ∧ e_ 5 = .int .i64 ((j : Nat) : Int) ∧ L_ = [Res.row (.slice a l.length c) 179 7 l.length (((markG mkP 7 l k).take j ++ l.drop j).flatMap encP)] ∧ k_ = l.length - j) _ ⟨0, by omega, rfl, rfl, rfl, rfl, rfl, rfl⟩ ?_
  rintro _ e_1 _ ⟨j, hj, he_2, he_3, he_4, he_5, rfl, rfl⟩
  refine JC.seq ?_
  refine JC.seq ?_
  refine JC.region ?_
  refine JL.pure rfl (PO.move (v := .int .i64 ((j : Nat) : Int)) he_5) ?_
  refine JL.pure rfl (PO.move (v := .slice a l.length c) he_2) ?_
  refine JL.pure rfl (PO.lenV Tryz.underlying127 rfl) ?_
  refine JL.pure rfl (PO.lss rfl rfl) ?_
  refine JL.nil ?_
  refine JQ.seq ?_
  by_cases h_6 : ((j : Nat) : Int) < ((l.length : Nat) : Int)
  · skip
    have hlt : j < l.length := by omega
    refine JC.condT (congrArg Value.bool (decide_eq_true h_6)) ?_
    refine JC.skip ?_
    refine JQ.seq ?_
    refine JC.seq ?_
    refine JC.block ?_
    refine JC.seq ?_
    refine JC.region ?_
    refine JL.pure rfl (PO.move (v := .slice a l.length c) he_2) ?_
    refine JL.pure rfl (PO.move (v := .int .i64 ((j : Nat) : Int)) he_5) ?_
    refine JL.pure rfl (PO.move (v := .int .i64 ((k + 7 * j : Nat) : Int)) he_3) ?_
    refine JL.facts fun hst => ?_
    obtain ⟨hr_7, hr_7b, -⟩ := row_some 0 rfl (by omega) hst
    refine JL.pure rfl (PO.indexAddrV (i := j) Tryz.underlying127 Tryz.sizeOf179 hr_7 hr_7b rfl rfl (by omega)) ?_
    refine JL.pure rfl (PO.fieldAddrE fo179_0 hr_7 rfl) ?_
    refine JL.op rfl (JO.storeR 0 (vs := [.int .i64 ((k + 7 * j : Nat) : Int)]) (cs' := (((markG mkP 7 l k).take j ++ l.drop j).set j (⟨((k + 7 * j : Nat) : Int), (((markG mkP 7 l k).take j ++ l.drop j).getD j p0_).call⟩ : SP)).flatMap encP) rfl rfl rfl rfl Tryz.sizeOf3 rfl rfl (by decide) (by rw [flat_length encP_len]; (try rw [List.length_set]); rw [markG_lenj mkP 7 hj]; omega) (flat_set1 encP_len p0_ (f := 0) (y := (⟨((k + 7 * j : Nat) : Int), (((markG mkP 7 l k).take j ++ l.drop j).getD j p0_).call⟩ : SP)) (by rw [markG_lenj mkP 7 hj]; omega) (by decide) rfl)) ?_
    rintro _ _ rfl
    refine JL.nil ?_
    refine JQ.seq ?_
    refine JC.seq ?_
    refine JC.region ?_
    refine JL.pure rfl (PO.move (v := .int .i64 ((k + 7 * j : Nat) : Int)) he_3) ?_
    refine JL.pure rfl (PO.add (c := (((k + 7 * j) + 1 : Nat) : Int)) rfl rfl (wr (by omega))) ?_
    refine JL.pure rfl (PO.assign (v := .int .i64 (((k + 7 * j) + 1 : Nat) : Int)) rfl) ?_
    refine JL.nil ?_
    refine JQ.seq ?_
    refine JC.seq ?_
    refine JC.region ?_
    refine JL.pure rfl (PO.move (v := .slice a l.length c) he_2) ?_
    refine JL.pure rfl (PO.move (v := .int .i64 ((j : Nat) : Int)) he_5) ?_
    refine JL.pure rfl (PO.move (v := .int .i64 (((k + 7 * j) + 1 : Nat) : Int)) rfl) ?_
    refine JL.pure rfl (PO.indexAddrV (i := j) Tryz.underlying127 Tryz.sizeOf179 hr_7 hr_7b rfl rfl (by omega)) ?_
    refine JL.pure rfl (PO.fieldAddrE fo179_1 hr_7 rfl) ?_
    refine JL.pure rfl (PO.fieldAddrE fo152_0 hr_7 rfl) ?_
    refine JL.op rfl (JO.storeR 0 (vs := [.int .i64 (((k + 7 * j) + 1 : Nat) : Int)]) (cs' := (((markG mkP 7 l k).take j ++ l.drop j).set j (⟨((k + 7 * j : Nat) : Int), (⟨(((k + 7 * j) + 1 : Nat) : Int), (((markG mkP 7 l k).take j ++ l.drop j).getD j p0_).call.name, (((markG mkP 7 l k).take j ++ l.drop j).getD j p0_).call.to_, (((markG mkP 7 l k).take j ++ l.drop j).getD j p0_).call.a, (((markG mkP 7 l k).take j ++ l.drop j).getD j p0_).call.b, (((markG mkP 7 l k).take j ++ l.drop j).getD j p0_).call.text⟩ : CL)⟩ : SP)).flatMap encP) rfl rfl rfl rfl Tryz.sizeOf3 rfl rfl (by decide) (by rw [flat_length encP_len]; (try rw [List.length_set]); rw [markG_lenj mkP 7 hj]; omega) (flat_set1s encP_len p0_ (f := 1) (x := (⟨((k + 7 * j : Nat) : Int), (((markG mkP 7 l k).take j ++ l.drop j).getD j p0_).call⟩ : SP)) (y := (⟨((k + 7 * j : Nat) : Int), (⟨(((k + 7 * j) + 1 : Nat) : Int), (((markG mkP 7 l k).take j ++ l.drop j).getD j p0_).call.name, (((markG mkP 7 l k).take j ++ l.drop j).getD j p0_).call.to_, (((markG mkP 7 l k).take j ++ l.drop j).getD j p0_).call.a, (((markG mkP 7 l k).take j ++ l.drop j).getD j p0_).call.b, (((markG mkP 7 l k).take j ++ l.drop j).getD j p0_).call.text⟩ : CL)⟩ : SP)) (by rw [markG_lenj mkP 7 hj]; omega) (by decide) rfl)) ?_
    rintro _ _ rfl
    refine JL.nil ?_
    refine JQ.seq ?_
    refine JC.seq ?_
    refine JC.region ?_
    refine JL.pure rfl (PO.move (v := .int .i64 (((k + 7 * j) + 1 : Nat) : Int)) rfl) ?_
    refine JL.pure rfl (PO.add (c := ((((k + 7 * j) + 1) + 1 : Nat) : Int)) rfl rfl (wr (by omega))) ?_
    refine JL.pure rfl (PO.assign (v := .int .i64 ((((k + 7 * j) + 1) + 1 : Nat) : Int)) rfl) ?_
    refine JL.nil ?_
    refine JQ.seq ?_
    refine JC.seq ?_
    refine JC.region ?_
    refine JL.pure rfl (PO.move (v := .slice a l.length c) he_2) ?_
    refine JL.pure rfl (PO.move (v := .int .i64 ((j : Nat) : Int)) he_5) ?_
    refine JL.pure rfl (PO.move (v := .int .i64 ((((k + 7 * j) + 1) + 1 : Nat) : Int)) rfl) ?_
    refine JL.op rfl (JO.call [] Tryz.call102 rfl (C_markText (((k + 7 * j) + 1) + 1) (by omega) (by omega)) rfl (fun _ _ => trivial)) ?_
    rintro _ _ ⟨_, ⟨rfl, rfl⟩, rfl⟩
    refine JL.pure rfl (PO.indexAddrV (i := j) Tryz.underlying127 Tryz.sizeOf179 hr_7 hr_7b rfl rfl (by omega)) ?_
    refine JL.pure rfl (PO.fieldAddrE fo179_1 hr_7 rfl) ?_
    refine JL.pure rfl (PO.fieldAddrE fo152_1 hr_7 rfl) ?_
    refine JL.op rfl (JO.storeR 0 (vs := [str (mt (((k + 7 * j) + 1) + 1))]) (cs' := (((markG mkP 7 l k).take j ++ l.drop j).set j (⟨((k + 7 * j : Nat) : Int), (⟨(((k + 7 * j) + 1 : Nat) : Int), mt (((k + 7 * j) + 1) + 1), (((markG mkP 7 l k).take j ++ l.drop j).getD j p0_).call.to_, (((markG mkP 7 l k).take j ++ l.drop j).getD j p0_).call.a, (((markG mkP 7 l k).take j ++ l.drop j).getD j p0_).call.b, (((markG mkP 7 l k).take j ++ l.drop j).getD j p0_).call.text⟩ : CL)⟩ : SP)).flatMap encP) rfl rfl rfl rfl Tryz.sizeOf9 rfl rfl (by decide) (by rw [flat_length encP_len]; (try rw [List.length_set]); rw [markG_lenj mkP 7 hj]; omega) (flat_set1s encP_len p0_ (f := 2) (x := (⟨((k + 7 * j : Nat) : Int), (⟨(((k + 7 * j) + 1 : Nat) : Int), (((markG mkP 7 l k).take j ++ l.drop j).getD j p0_).call.name, (((markG mkP 7 l k).take j ++ l.drop j).getD j p0_).call.to_, (((markG mkP 7 l k).take j ++ l.drop j).getD j p0_).call.a, (((markG mkP 7 l k).take j ++ l.drop j).getD j p0_).call.b, (((markG mkP 7 l k).take j ++ l.drop j).getD j p0_).call.text⟩ : CL)⟩ : SP)) (y := (⟨((k + 7 * j : Nat) : Int), (⟨(((k + 7 * j) + 1 : Nat) : Int), mt (((k + 7 * j) + 1) + 1), (((markG mkP 7 l k).take j ++ l.drop j).getD j p0_).call.to_, (((markG mkP 7 l k).take j ++ l.drop j).getD j p0_).call.a, (((markG mkP 7 l k).take j ++ l.drop j).getD j p0_).call.b, (((markG mkP 7 l k).take j ++ l.drop j).getD j p0_).call.text⟩ : CL)⟩ : SP)) (by rw [markG_lenj mkP 7 hj]; omega) (by decide) rfl)) ?_
    rintro _ _ rfl
    refine JL.nil ?_
    refine JQ.seq ?_
    refine JC.seq ?_
    refine JC.region ?_
    refine JL.pure rfl (PO.move (v := .int .i64 ((((k + 7 * j) + 1) + 1 : Nat) : Int)) rfl) ?_
    refine JL.pure rfl (PO.add (c := (((((k + 7 * j) + 1) + 1) + 1 : Nat) : Int)) rfl rfl (wr (by omega))) ?_
    refine JL.pure rfl (PO.assign (v := .int .i64 (((((k + 7 * j) + 1) + 1) + 1 : Nat) : Int)) rfl) ?_
    refine JL.nil ?_
    refine JQ.seq ?_
    refine JC.seq ?_
    refine JC.region ?_
    refine JL.pure rfl (PO.move (v := .slice a l.length c) he_2) ?_
    refine JL.pure rfl (PO.move (v := .int .i64 ((j : Nat) : Int)) he_5) ?_
    refine JL.pure rfl (PO.move (v := .int .i64 (((((k + 7 * j) + 1) + 1) + 1 : Nat) : Int)) rfl) ?_
    refine JL.op rfl (JO.call [] Tryz.call102 rfl (C_markText ((((k + 7 * j) + 1) + 1) + 1) (by omega) (by omega)) rfl (fun _ _ => trivial)) ?_
    rintro _ _ ⟨_, ⟨rfl, rfl⟩, rfl⟩
    refine JL.pure rfl (PO.indexAddrV (i := j) Tryz.underlying127 Tryz.sizeOf179 hr_7 hr_7b rfl rfl (by omega)) ?_
    refine JL.pure rfl (PO.fieldAddrE fo179_1 hr_7 rfl) ?_
    refine JL.pure rfl (PO.fieldAddrE fo152_2 hr_7 rfl) ?_
    refine JL.op rfl (JO.storeR 0 (vs := [str (mt ((((k + 7 * j) + 1) + 1) + 1))]) (cs' := (((markG mkP 7 l k).take j ++ l.drop j).set j (⟨((k + 7 * j : Nat) : Int), (⟨(((k + 7 * j) + 1 : Nat) : Int), mt (((k + 7 * j) + 1) + 1), mt ((((k + 7 * j) + 1) + 1) + 1), (((markG mkP 7 l k).take j ++ l.drop j).getD j p0_).call.a, (((markG mkP 7 l k).take j ++ l.drop j).getD j p0_).call.b, (((markG mkP 7 l k).take j ++ l.drop j).getD j p0_).call.text⟩ : CL)⟩ : SP)).flatMap encP) rfl rfl rfl rfl Tryz.sizeOf9 rfl rfl (by decide) (by rw [flat_length encP_len]; (try rw [List.length_set]); rw [markG_lenj mkP 7 hj]; omega) (flat_set1s encP_len p0_ (f := 3) (x := (⟨((k + 7 * j : Nat) : Int), (⟨(((k + 7 * j) + 1 : Nat) : Int), mt (((k + 7 * j) + 1) + 1), (((markG mkP 7 l k).take j ++ l.drop j).getD j p0_).call.to_, (((markG mkP 7 l k).take j ++ l.drop j).getD j p0_).call.a, (((markG mkP 7 l k).take j ++ l.drop j).getD j p0_).call.b, (((markG mkP 7 l k).take j ++ l.drop j).getD j p0_).call.text⟩ : CL)⟩ : SP)) (y := (⟨((k + 7 * j : Nat) : Int), (⟨(((k + 7 * j) + 1 : Nat) : Int), mt (((k + 7 * j) + 1) + 1), mt ((((k + 7 * j) + 1) + 1) + 1), (((markG mkP 7 l k).take j ++ l.drop j).getD j p0_).call.a, (((markG mkP 7 l k).take j ++ l.drop j).getD j p0_).call.b, (((markG mkP 7 l k).take j ++ l.drop j).getD j p0_).call.text⟩ : CL)⟩ : SP)) (by rw [markG_lenj mkP 7 hj]; omega) (by decide) rfl)) ?_
    rintro _ _ rfl
    refine JL.nil ?_
    refine JQ.seq ?_
    refine JC.seq ?_
    refine JC.region ?_
    refine JL.pure rfl (PO.move (v := .int .i64 (((((k + 7 * j) + 1) + 1) + 1 : Nat) : Int)) rfl) ?_
    refine JL.pure rfl (PO.add (c := ((((((k + 7 * j) + 1) + 1) + 1) + 1 : Nat) : Int)) rfl rfl (wr (by omega))) ?_
    refine JL.pure rfl (PO.assign (v := .int .i64 ((((((k + 7 * j) + 1) + 1) + 1) + 1 : Nat) : Int)) rfl) ?_
    refine JL.nil ?_
    refine JQ.seq ?_
    refine JC.seq ?_
    refine JC.region ?_
    refine JL.pure rfl (PO.move (v := .slice a l.length c) he_2) ?_
    refine JL.pure rfl (PO.move (v := .int .i64 ((j : Nat) : Int)) he_5) ?_
    refine JL.pure rfl (PO.move (v := .int .i64 ((((((k + 7 * j) + 1) + 1) + 1) + 1 : Nat) : Int)) rfl) ?_
    refine JL.pure rfl (PO.indexAddrV (i := j) Tryz.underlying127 Tryz.sizeOf179 hr_7 hr_7b rfl rfl (by omega)) ?_
    refine JL.pure rfl (PO.fieldAddrE fo179_1 hr_7 rfl) ?_
    refine JL.pure rfl (PO.fieldAddrE fo152_3 hr_7 rfl) ?_
    refine JL.op rfl (JO.storeR 0 (vs := [.int .i64 ((((((k + 7 * j) + 1) + 1) + 1) + 1 : Nat) : Int)]) (cs' := (((markG mkP 7 l k).take j ++ l.drop j).set j (⟨((k + 7 * j : Nat) : Int), (⟨(((k + 7 * j) + 1 : Nat) : Int), mt (((k + 7 * j) + 1) + 1), mt ((((k + 7 * j) + 1) + 1) + 1), ((((((k + 7 * j) + 1) + 1) + 1) + 1 : Nat) : Int), (((markG mkP 7 l k).take j ++ l.drop j).getD j p0_).call.b, (((markG mkP 7 l k).take j ++ l.drop j).getD j p0_).call.text⟩ : CL)⟩ : SP)).flatMap encP) rfl rfl rfl rfl Tryz.sizeOf3 rfl rfl (by decide) (by rw [flat_length encP_len]; (try rw [List.length_set]); rw [markG_lenj mkP 7 hj]; omega) (flat_set1s encP_len p0_ (f := 4) (x := (⟨((k + 7 * j : Nat) : Int), (⟨(((k + 7 * j) + 1 : Nat) : Int), mt (((k + 7 * j) + 1) + 1), mt ((((k + 7 * j) + 1) + 1) + 1), (((markG mkP 7 l k).take j ++ l.drop j).getD j p0_).call.a, (((markG mkP 7 l k).take j ++ l.drop j).getD j p0_).call.b, (((markG mkP 7 l k).take j ++ l.drop j).getD j p0_).call.text⟩ : CL)⟩ : SP)) (y := (⟨((k + 7 * j : Nat) : Int), (⟨(((k + 7 * j) + 1 : Nat) : Int), mt (((k + 7 * j) + 1) + 1), mt ((((k + 7 * j) + 1) + 1) + 1), ((((((k + 7 * j) + 1) + 1) + 1) + 1 : Nat) : Int), (((markG mkP 7 l k).take j ++ l.drop j).getD j p0_).call.b, (((markG mkP 7 l k).take j ++ l.drop j).getD j p0_).call.text⟩ : CL)⟩ : SP)) (by rw [markG_lenj mkP 7 hj]; omega) (by decide) rfl)) ?_
    rintro _ _ rfl
    refine JL.nil ?_
    refine JQ.seq ?_
    refine JC.seq ?_
    refine JC.region ?_
    refine JL.pure rfl (PO.move (v := .int .i64 ((((((k + 7 * j) + 1) + 1) + 1) + 1 : Nat) : Int)) rfl) ?_
    refine JL.pure rfl (PO.add (c := (((((((k + 7 * j) + 1) + 1) + 1) + 1) + 1 : Nat) : Int)) rfl rfl (wr (by omega))) ?_
    refine JL.pure rfl (PO.assign (v := .int .i64 (((((((k + 7 * j) + 1) + 1) + 1) + 1) + 1 : Nat) : Int)) rfl) ?_
    refine JL.nil ?_
    refine JQ.seq ?_
    refine JC.seq ?_
    refine JC.region ?_
    refine JL.pure rfl (PO.move (v := .slice a l.length c) he_2) ?_
    refine JL.pure rfl (PO.move (v := .int .i64 ((j : Nat) : Int)) he_5) ?_
    refine JL.pure rfl (PO.move (v := .int .i64 (((((((k + 7 * j) + 1) + 1) + 1) + 1) + 1 : Nat) : Int)) rfl) ?_
    refine JL.pure rfl (PO.indexAddrV (i := j) Tryz.underlying127 Tryz.sizeOf179 hr_7 hr_7b rfl rfl (by omega)) ?_
    refine JL.pure rfl (PO.fieldAddrE fo179_1 hr_7 rfl) ?_
    refine JL.pure rfl (PO.fieldAddrE fo152_4 hr_7 rfl) ?_
    refine JL.op rfl (JO.storeR 0 (vs := [.int .i64 (((((((k + 7 * j) + 1) + 1) + 1) + 1) + 1 : Nat) : Int)]) (cs' := (((markG mkP 7 l k).take j ++ l.drop j).set j (⟨((k + 7 * j : Nat) : Int), (⟨(((k + 7 * j) + 1 : Nat) : Int), mt (((k + 7 * j) + 1) + 1), mt ((((k + 7 * j) + 1) + 1) + 1), ((((((k + 7 * j) + 1) + 1) + 1) + 1 : Nat) : Int), (((((((k + 7 * j) + 1) + 1) + 1) + 1) + 1 : Nat) : Int), (((markG mkP 7 l k).take j ++ l.drop j).getD j p0_).call.text⟩ : CL)⟩ : SP)).flatMap encP) rfl rfl rfl rfl Tryz.sizeOf3 rfl rfl (by decide) (by rw [flat_length encP_len]; (try rw [List.length_set]); rw [markG_lenj mkP 7 hj]; omega) (flat_set1s encP_len p0_ (f := 5) (x := (⟨((k + 7 * j : Nat) : Int), (⟨(((k + 7 * j) + 1 : Nat) : Int), mt (((k + 7 * j) + 1) + 1), mt ((((k + 7 * j) + 1) + 1) + 1), ((((((k + 7 * j) + 1) + 1) + 1) + 1 : Nat) : Int), (((markG mkP 7 l k).take j ++ l.drop j).getD j p0_).call.b, (((markG mkP 7 l k).take j ++ l.drop j).getD j p0_).call.text⟩ : CL)⟩ : SP)) (y := (⟨((k + 7 * j : Nat) : Int), (⟨(((k + 7 * j) + 1 : Nat) : Int), mt (((k + 7 * j) + 1) + 1), mt ((((k + 7 * j) + 1) + 1) + 1), ((((((k + 7 * j) + 1) + 1) + 1) + 1 : Nat) : Int), (((((((k + 7 * j) + 1) + 1) + 1) + 1) + 1 : Nat) : Int), (((markG mkP 7 l k).take j ++ l.drop j).getD j p0_).call.text⟩ : CL)⟩ : SP)) (by rw [markG_lenj mkP 7 hj]; omega) (by decide) rfl)) ?_
    rintro _ _ rfl
    refine JL.nil ?_
    refine JQ.seq ?_
    refine JC.seq ?_
    refine JC.region ?_
    refine JL.pure rfl (PO.move (v := .int .i64 (((((((k + 7 * j) + 1) + 1) + 1) + 1) + 1 : Nat) : Int)) rfl) ?_
    refine JL.pure rfl (PO.add (c := ((((((((k + 7 * j) + 1) + 1) + 1) + 1) + 1) + 1 : Nat) : Int)) rfl rfl (wr (by omega))) ?_
    refine JL.pure rfl (PO.assign (v := .int .i64 ((((((((k + 7 * j) + 1) + 1) + 1) + 1) + 1) + 1 : Nat) : Int)) rfl) ?_
    refine JL.nil ?_
    refine JQ.seq ?_
    refine JC.seq ?_
    refine JC.region ?_
    refine JL.pure rfl (PO.move (v := .slice a l.length c) he_2) ?_
    refine JL.pure rfl (PO.move (v := .int .i64 ((j : Nat) : Int)) he_5) ?_
    refine JL.pure rfl (PO.move (v := .int .i64 ((((((((k + 7 * j) + 1) + 1) + 1) + 1) + 1) + 1 : Nat) : Int)) rfl) ?_
    refine JL.op rfl (JO.call [] Tryz.call102 rfl (C_markText (((((((k + 7 * j) + 1) + 1) + 1) + 1) + 1) + 1) (by omega) (by omega)) rfl (fun _ _ => trivial)) ?_
    rintro _ _ ⟨_, ⟨rfl, rfl⟩, rfl⟩
    refine JL.pure rfl (PO.indexAddrV (i := j) Tryz.underlying127 Tryz.sizeOf179 hr_7 hr_7b rfl rfl (by omega)) ?_
    refine JL.pure rfl (PO.fieldAddrE fo179_1 hr_7 rfl) ?_
    refine JL.pure rfl (PO.fieldAddrE fo152_5 hr_7 rfl) ?_
    refine JL.op rfl (JO.storeR 0 (vs := [str (mt (((((((k + 7 * j) + 1) + 1) + 1) + 1) + 1) + 1))]) (cs' := (((markG mkP 7 l k).take j ++ l.drop j).set j (⟨((k + 7 * j : Nat) : Int), (⟨(((k + 7 * j) + 1 : Nat) : Int), mt (((k + 7 * j) + 1) + 1), mt ((((k + 7 * j) + 1) + 1) + 1), ((((((k + 7 * j) + 1) + 1) + 1) + 1 : Nat) : Int), (((((((k + 7 * j) + 1) + 1) + 1) + 1) + 1 : Nat) : Int), mt (((((((k + 7 * j) + 1) + 1) + 1) + 1) + 1) + 1)⟩ : CL)⟩ : SP)).flatMap encP) rfl rfl rfl rfl Tryz.sizeOf9 rfl rfl (by decide) (by rw [flat_length encP_len]; (try rw [List.length_set]); rw [markG_lenj mkP 7 hj]; omega) (flat_set1s encP_len p0_ (f := 6) (x := (⟨((k + 7 * j : Nat) : Int), (⟨(((k + 7 * j) + 1 : Nat) : Int), mt (((k + 7 * j) + 1) + 1), mt ((((k + 7 * j) + 1) + 1) + 1), ((((((k + 7 * j) + 1) + 1) + 1) + 1 : Nat) : Int), (((((((k + 7 * j) + 1) + 1) + 1) + 1) + 1 : Nat) : Int), (((markG mkP 7 l k).take j ++ l.drop j).getD j p0_).call.text⟩ : CL)⟩ : SP)) (y := (⟨((k + 7 * j : Nat) : Int), (⟨(((k + 7 * j) + 1 : Nat) : Int), mt (((k + 7 * j) + 1) + 1), mt ((((k + 7 * j) + 1) + 1) + 1), ((((((k + 7 * j) + 1) + 1) + 1) + 1 : Nat) : Int), (((((((k + 7 * j) + 1) + 1) + 1) + 1) + 1 : Nat) : Int), mt (((((((k + 7 * j) + 1) + 1) + 1) + 1) + 1) + 1)⟩ : CL)⟩ : SP)) (by rw [markG_lenj mkP 7 hj]; omega) (by decide) rfl)) ?_
    rintro _ _ rfl
    refine JL.nil ?_
    refine JQ.seq ?_
    refine JC.region ?_
    refine JL.pure rfl (PO.move (v := .int .i64 ((((((((k + 7 * j) + 1) + 1) + 1) + 1) + 1) + 1 : Nat) : Int)) rfl) ?_
    refine JL.pure rfl (PO.add (c := (((((((((k + 7 * j) + 1) + 1) + 1) + 1) + 1) + 1) + 1 : Nat) : Int)) rfl rfl (wr (by omega))) ?_
    refine JL.pure rfl (PO.assign (v := .int .i64 (((((((((k + 7 * j) + 1) + 1) + 1) + 1) + 1) + 1) + 1 : Nat) : Int)) rfl) ?_
    refine JL.nil ?_
    refine JQ.blockN ?_
    refine JQ.seq ?_
    refine JC.region ?_
    refine JL.pure rfl (PO.move (v := .int .i64 ((j : Nat) : Int)) he_5) ?_
    refine JL.pure rfl (PO.add (c := ((j + 1 : Nat) : Int)) rfl rfl (wr (by omega))) ?_
    refine JL.pure rfl (PO.assign (v := .int .i64 ((j + 1 : Nat) : Int)) rfl) ?_
    refine JL.nil ?_
    refine JQ.again (l.length - (j + 1)) (by omega) ⟨j + 1, by omega, he_2, rfl, he_4, rfl, (by rw [← markG_step mkP 7 hlt]; rfl), rfl⟩
  · skip
    refine JC.condF (congrArg Value.bool (decide_eq_false h_6)) ?_
    refine JC.exit ?_
    refine JQ.thenExit ?_
    refine JQ.thenExit ?_
    refine JQ.blockE ?_
    refine JQ.seq ?_
    refine JC.seq ?_
    refine JC.region ?_
    refine JL.pure rfl (PO.move (v := .int .i64 ((k + 7 * j : Nat) : Int)) he_3) ?_
    refine JL.pure rfl (PO.assign (v := .int .i64 ((k + 7 * j : Nat) : Int)) rfl) ?_
    refine JL.nil ?_
    refine JQ.seq ?_
    refine JC.ret ?_
    refine Done.one (.inl rfl) rfl (RV.tmp (v := .int .i64 ((k + 7 * j : Nat) : Int)) rfl) (List.Sublist.refl _) ?_
    exact ⟨by rw [show j = l.length by omega], by rw [show j = l.length by omega, List.drop_of_length_le (Nat.le_refl _), List.append_nil, List.take_of_length_le (by rw [markG_len]; exact Nat.le_refl _)]⟩

theorem C_heldStepS (a : Option Addr) (c : Nat) (l : List SP) (k : Nat) (h0 : 0 < k) (h1 : k + 7 * l.length ≤ 100000000) :
    Ct Tryz.prog 109 [.slice a l.length c, .int .i64 ((k : Nat) : Int)] [] (fun w => Sees w (.slice a l.length c) 7 l.length ((markG mkP 7 l k).flatMap encP)) (fun v A' => v = .int .i64 ((k + 7 * l.length : Nat) : Int) ∧ A' = []) := by
  refine Ct.intro Tryz.func109 rfl Tryz.ntmps109 (Nat.le_of_ble_eq_true rfl) fun w0 hpre => ?_
  have hs_a : Sees w0 _ _ _ _ := hpre
  refine JC.seq ?_
  refine JC.region ?_
  refine JL.pure rfl (PO.assign (v := .int .i64 0) rfl) ?_
  refine JL.nil ?_
  refine JQ.seq ?_
  refine JC.seq ?_
  refine JC.seq ?_
  refine JC.region ?_
  refine JL.pure rfl (PO.assign (v := .int .i64 0) rfl) ?_
  refine JL.nil ?_
  refine JQ.seq ?_
  refine JC.block ?_
  refine JC.loop (fun k_ e_ L_ => ∃ j : Nat, (j ≤ l.length) ∧ e_ 0 = .slice a l.length c ∧ e_ 1 = .int .i64 ((k + 7 * j : Nat) : Int) ∧ e_ 5 = .int .i64 ((j : Nat) : Int) ∧ L_ = [] ∧ k_ = l.length - j) _ ⟨0, by omega, rfl, rfl, rfl, rfl, rfl⟩ ?_
  rintro _ e_1 _ ⟨j, hj, he_2, he_3, he_4, rfl, rfl⟩
  refine JC.seq ?_
  refine JC.seq ?_
  refine JC.region ?_
  refine JL.pure rfl (PO.move (v := .int .i64 ((j : Nat) : Int)) he_4) ?_
  refine JL.pure rfl (PO.move (v := .slice a l.length c) he_2) ?_
  refine JL.pure rfl (PO.lenV Tryz.underlying127 rfl) ?_
  refine JL.pure rfl (PO.lss rfl rfl) ?_
  refine JL.nil ?_
  refine JQ.seq ?_
  by_cases h_5 : ((j : Nat) : Int) < ((l.length : Nat) : Int)
  · skip
    have hlt : j < l.length := by omega
    refine JC.condT (congrArg Value.bool (decide_eq_true h_5)) ?_
    refine JC.skip ?_
    refine JQ.seq ?_
    refine JC.seq ?_
    refine JC.block ?_
    refine JC.seq ?_
    refine JC.seq ?_
    refine JC.region ?_
    refine JL.pure rfl (PO.move (v := .slice a l.length c) he_2) ?_
    refine JL.pure rfl (PO.move (v := .int .i64 ((j : Nat) : Int)) he_4) ?_
    obtain ⟨hr_6, hr_6b, -⟩ := sees_some hs_a (by omega)
    refine JL.pure rfl (PO.indexAddrV (i := j) Tryz.underlying127 Tryz.sizeOf179 hr_6 hr_6b rfl rfl (by omega)) ?_
    refine JL.pure rfl (PO.fieldAddrE fo179_0 hr_6 rfl) ?_
    refine JL.ld rfl (LO.loadS1 (v := .int .i64 (((markG mkP 7 l k).getD j p0_).proc)) hs_a (fun _ _ => List.not_mem_nil) rfl Tryz.isAgg3 (flat_at encP_len p0_ (markG mkP 7 l k) j 0 (by rw [markG_len]; omega) (by decide))) ?_
    refine JL.pure rfl (PO.move (v := .int .i64 ((k + 7 * j : Nat) : Int)) he_3) ?_
    refine JL.pure rfl (PO.neqI rfl rfl) ?_
    refine JL.nil ?_
    refine JQ.seq ?_
    by_cases h_7 : (((markG mkP 7 l k).getD j p0_).proc) = ((k + 7 * j : Nat) : Int)
    · skip
      refine JC.condF (congrArg Value.bool (congrArg Bool.not (decide_eq_true h_7))) ?_
      refine JC.skip ?_
      refine JQ.seq ?_
      refine JC.seq ?_
      refine JC.region ?_
      refine JL.pure rfl (PO.move (v := .int .i64 ((k + 7 * j : Nat) : Int)) he_3) ?_
      refine JL.pure rfl (PO.add (c := (((k + 7 * j) + 1 : Nat) : Int)) rfl rfl (wr (by omega))) ?_
      refine JL.pure rfl (PO.assign (v := .int .i64 (((k + 7 * j) + 1 : Nat) : Int)) rfl) ?_
      refine JL.nil ?_
      refine JQ.seq ?_
      refine JC.seq ?_
      refine JC.seq ?_
      refine JC.region ?_
      refine JL.pure rfl (PO.move (v := .slice a l.length c) he_2) ?_
      refine JL.pure rfl (PO.move (v := .int .i64 ((j : Nat) : Int)) he_4) ?_
      refine JL.pure rfl (PO.indexAddrV (i := j) Tryz.underlying127 Tryz.sizeOf179 hr_6 hr_6b rfl rfl (by omega)) ?_
      refine JL.pure rfl (PO.fieldAddrE fo179_1 hr_6 rfl) ?_
      refine JL.pure rfl (PO.fieldAddrE fo152_0 hr_6 rfl) ?_
      refine JL.ld rfl (LO.loadS1 (v := .int .i64 (((markG mkP 7 l k).getD j p0_).call.kind)) hs_a (fun _ _ => List.not_mem_nil) rfl Tryz.isAgg3 (flat_at encP_len p0_ (markG mkP 7 l k) j 1 (by rw [markG_len]; omega) (by decide))) ?_
      refine JL.pure rfl (PO.move (v := .int .i64 (((k + 7 * j) + 1 : Nat) : Int)) rfl) ?_
      refine JL.pure rfl (PO.neqI rfl rfl) ?_
      refine JL.nil ?_
      refine JQ.seq ?_
      by_cases h_8 : (((markG mkP 7 l k).getD j p0_).call.kind) = (((k + 7 * j) + 1 : Nat) : Int)
      · skip
        refine JC.condF (congrArg Value.bool (congrArg Bool.not (decide_eq_true h_8))) ?_
        refine JC.skip ?_
        refine JQ.seq ?_
        refine JC.seq ?_
        refine JC.region ?_
        refine JL.pure rfl (PO.move (v := .int .i64 (((k + 7 * j) + 1 : Nat) : Int)) rfl) ?_
        refine JL.pure rfl (PO.add (c := ((((k + 7 * j) + 1) + 1 : Nat) : Int)) rfl rfl (wr (by omega))) ?_
        refine JL.pure rfl (PO.assign (v := .int .i64 ((((k + 7 * j) + 1) + 1 : Nat) : Int)) rfl) ?_
        refine JL.nil ?_
        refine JQ.seq ?_
        refine JC.seq ?_
        refine JC.seq ?_
        refine JC.regionA [] 8 mixed (by simp) ?_
        refine JA.takeP 0 rfl (by kernel_rfl) (NP.th (NP.th (NP.bl (NP.th (NP.th (NP.bl (NP.th NP.body))))))) (by kernel_rfl) (by kernel_rfl) rfl (PO.move (v := .slice a l.length c) he_2) ?_
        refine JA.takeP 1 rfl (by kernel_rfl) (NP.th (NP.th (NP.bl (NP.th (NP.th (NP.bl (NP.th NP.body))))))) (by kernel_rfl) (by kernel_rfl) rfl (PO.move (v := .int .i64 ((j : Nat) : Int)) he_4) ?_
        refine JA.takeP 2 rfl (by kernel_rfl) (NP.th (NP.th (NP.bl (NP.th (NP.th (NP.bl (NP.th NP.body))))))) (by kernel_rfl) (by kernel_rfl) rfl (PO.indexAddrV (i := j) Tryz.underlying127 Tryz.sizeOf179 hr_6 hr_6b rfl rfl (by omega)) ?_
        refine JA.takeP 3 rfl (by kernel_rfl) (NP.th (NP.th (NP.bl (NP.th (NP.th (NP.bl (NP.th NP.body))))))) (by kernel_rfl) (by kernel_rfl) rfl (PO.fieldAddrE fo179_1 hr_6 rfl) ?_
        refine JA.takeP 4 rfl (by kernel_rfl) (NP.th (NP.th (NP.bl (NP.th (NP.th (NP.bl (NP.th NP.body))))))) (by kernel_rfl) (by kernel_rfl) rfl (PO.fieldAddrE fo152_1 hr_6 rfl) ?_
        refine JA.take 5 rfl (by kernel_rfl) (NP.th (NP.th (NP.bl (NP.th (NP.th (NP.bl (NP.th NP.body))))))) (by kernel_rfl) (by kernel_rfl) (by kernel_rfl) rfl (LO.loadS1 (v := str (((markG mkP 7 l k).getD j p0_).call.name)) hs_a (fun _ _ => List.not_mem_nil) rfl Tryz.isAgg9 (flat_at encP_len p0_ (markG mkP 7 l k) j 2 (by rw [markG_len]; omega) (by decide))) ?_
        refine JA.takeP 6 rfl (by kernel_rfl) (NP.th (NP.th (NP.bl (NP.th (NP.th (NP.bl (NP.th NP.body))))))) (by kernel_rfl) (by kernel_rfl) rfl (PO.move (v := .int .i64 ((((k + 7 * j) + 1) + 1 : Nat) : Int)) rfl) ?_
        refine JA.one (i := 7) (by kernel_rfl) ?_
        refine JX.op rfl rfl (JO.call [] Tryz.call102 rfl (C_markText (((k + 7 * j) + 1) + 1) (by omega) (by omega)) rfl (fun _ _ => trivial)) ?_
        rintro _ _ ⟨_, ⟨rfl, rfl⟩, rfl⟩
        refine ⟨(fun _ h => by cases h), ?_⟩
        refine JA.takeP 8 rfl (by kernel_rfl) (NP.th (NP.th (NP.bl (NP.th (NP.th (NP.bl (NP.th NP.body))))))) (by kernel_rfl) (by kernel_rfl) rfl (PO.neqS rfl rfl) ?_
        refine JA.done (by kernel_rfl) ?_
        refine JQ.seq ?_
        by_cases h_9 : (((markG mkP 7 l k).getD j p0_).call.name) = (mt (((k + 7 * j) + 1) + 1))
        · skip
          refine JC.condF (congrArg Value.bool (congrArg Bool.not (decide_eq_true h_9))) ?_
          refine JC.skip ?_
          refine JQ.seq ?_
          refine JC.seq ?_
          refine JC.region ?_
          refine JL.pure rfl (PO.move (v := .int .i64 ((((k + 7 * j) + 1) + 1 : Nat) : Int)) rfl) ?_
          refine JL.pure rfl (PO.add (c := (((((k + 7 * j) + 1) + 1) + 1 : Nat) : Int)) rfl rfl (wr (by omega))) ?_
          refine JL.pure rfl (PO.assign (v := .int .i64 (((((k + 7 * j) + 1) + 1) + 1 : Nat) : Int)) rfl) ?_
          refine JL.nil ?_
          refine JQ.seq ?_
          refine JC.seq ?_
          refine JC.seq ?_
          refine JC.regionA [] 8 mixed (by simp) ?_
          refine JA.takeP 0 rfl (by kernel_rfl) (NP.th (NP.th (NP.bl (NP.th (NP.th (NP.bl (NP.th NP.body))))))) (by kernel_rfl) (by kernel_rfl) rfl (PO.move (v := .slice a l.length c) he_2) ?_
          refine JA.takeP 1 rfl (by kernel_rfl) (NP.th (NP.th (NP.bl (NP.th (NP.th (NP.bl (NP.th NP.body))))))) (by kernel_rfl) (by kernel_rfl) rfl (PO.move (v := .int .i64 ((j : Nat) : Int)) he_4) ?_
          refine JA.takeP 2 rfl (by kernel_rfl) (NP.th (NP.th (NP.bl (NP.th (NP.th (NP.bl (NP.th NP.body))))))) (by kernel_rfl) (by kernel_rfl) rfl (PO.indexAddrV (i := j) Tryz.underlying127 Tryz.sizeOf179 hr_6 hr_6b rfl rfl (by omega)) ?_
          refine JA.takeP 3 rfl (by kernel_rfl) (NP.th (NP.th (NP.bl (NP.th (NP.th (NP.bl (NP.th NP.body))))))) (by kernel_rfl) (by kernel_rfl) rfl (PO.fieldAddrE fo179_1 hr_6 rfl) ?_
          refine JA.takeP 4 rfl (by kernel_rfl) (NP.th (NP.th (NP.bl (NP.th (NP.th (NP.bl (NP.th NP.body))))))) (by kernel_rfl) (by kernel_rfl) rfl (PO.fieldAddrE fo152_2 hr_6 rfl) ?_
          refine JA.take 5 rfl (by kernel_rfl) (NP.th (NP.th (NP.bl (NP.th (NP.th (NP.bl (NP.th NP.body))))))) (by kernel_rfl) (by kernel_rfl) (by kernel_rfl) rfl (LO.loadS1 (v := str (((markG mkP 7 l k).getD j p0_).call.to_)) hs_a (fun _ _ => List.not_mem_nil) rfl Tryz.isAgg9 (flat_at encP_len p0_ (markG mkP 7 l k) j 3 (by rw [markG_len]; omega) (by decide))) ?_
          refine JA.takeP 6 rfl (by kernel_rfl) (NP.th (NP.th (NP.bl (NP.th (NP.th (NP.bl (NP.th NP.body))))))) (by kernel_rfl) (by kernel_rfl) rfl (PO.move (v := .int .i64 (((((k + 7 * j) + 1) + 1) + 1 : Nat) : Int)) rfl) ?_
          refine JA.one (i := 7) (by kernel_rfl) ?_
          refine JX.op rfl rfl (JO.call [] Tryz.call102 rfl (C_markText ((((k + 7 * j) + 1) + 1) + 1) (by omega) (by omega)) rfl (fun _ _ => trivial)) ?_
          rintro _ _ ⟨_, ⟨rfl, rfl⟩, rfl⟩
          refine ⟨(fun _ h => by cases h), ?_⟩
          refine JA.takeP 8 rfl (by kernel_rfl) (NP.th (NP.th (NP.bl (NP.th (NP.th (NP.bl (NP.th NP.body))))))) (by kernel_rfl) (by kernel_rfl) rfl (PO.neqS rfl rfl) ?_
          refine JA.done (by kernel_rfl) ?_
          refine JQ.seq ?_
          by_cases h_10 : (((markG mkP 7 l k).getD j p0_).call.to_) = (mt ((((k + 7 * j) + 1) + 1) + 1))
          · skip
            refine JC.condF (congrArg Value.bool (congrArg Bool.not (decide_eq_true h_10))) ?_
            refine JC.skip ?_
            refine JQ.seq ?_
            refine JC.seq ?_
            refine JC.region ?_
            refine JL.pure rfl (PO.move (v := .int .i64 (((((k + 7 * j) + 1) + 1) + 1 : Nat) : Int)) rfl) ?_
            refine JL.pure rfl (PO.add (c := ((((((k + 7 * j) + 1) + 1) + 1) + 1 : Nat) : Int)) rfl rfl (wr (by omega))) ?_
            refine JL.pure rfl (PO.assign (v := .int .i64 ((((((k + 7 * j) + 1) + 1) + 1) + 1 : Nat) : Int)) rfl) ?_
            refine JL.nil ?_
            refine JQ.seq ?_
            refine JC.seq ?_
            refine JC.seq ?_
            refine JC.region ?_
            refine JL.pure rfl (PO.move (v := .slice a l.length c) he_2) ?_
            refine JL.pure rfl (PO.move (v := .int .i64 ((j : Nat) : Int)) he_4) ?_
            refine JL.pure rfl (PO.indexAddrV (i := j) Tryz.underlying127 Tryz.sizeOf179 hr_6 hr_6b rfl rfl (by omega)) ?_
            refine JL.pure rfl (PO.fieldAddrE fo179_1 hr_6 rfl) ?_
            refine JL.pure rfl (PO.fieldAddrE fo152_3 hr_6 rfl) ?_
            refine JL.ld rfl (LO.loadS1 (v := .int .i64 (((markG mkP 7 l k).getD j p0_).call.a)) hs_a (fun _ _ => List.not_mem_nil) rfl Tryz.isAgg3 (flat_at encP_len p0_ (markG mkP 7 l k) j 4 (by rw [markG_len]; omega) (by decide))) ?_
            refine JL.pure rfl (PO.move (v := .int .i64 ((((((k + 7 * j) + 1) + 1) + 1) + 1 : Nat) : Int)) rfl) ?_
            refine JL.pure rfl (PO.neqI rfl rfl) ?_
            refine JL.nil ?_
            refine JQ.seq ?_
            by_cases h_11 : (((markG mkP 7 l k).getD j p0_).call.a) = ((((((k + 7 * j) + 1) + 1) + 1) + 1 : Nat) : Int)
            · skip
              refine JC.condF (congrArg Value.bool (congrArg Bool.not (decide_eq_true h_11))) ?_
              refine JC.skip ?_
              refine JQ.seq ?_
              refine JC.seq ?_
              refine JC.region ?_
              refine JL.pure rfl (PO.move (v := .int .i64 ((((((k + 7 * j) + 1) + 1) + 1) + 1 : Nat) : Int)) rfl) ?_
              refine JL.pure rfl (PO.add (c := (((((((k + 7 * j) + 1) + 1) + 1) + 1) + 1 : Nat) : Int)) rfl rfl (wr (by omega))) ?_
              refine JL.pure rfl (PO.assign (v := .int .i64 (((((((k + 7 * j) + 1) + 1) + 1) + 1) + 1 : Nat) : Int)) rfl) ?_
              refine JL.nil ?_
              refine JQ.seq ?_
              refine JC.seq ?_
              refine JC.seq ?_
              refine JC.region ?_
              refine JL.pure rfl (PO.move (v := .slice a l.length c) he_2) ?_
              refine JL.pure rfl (PO.move (v := .int .i64 ((j : Nat) : Int)) he_4) ?_
              refine JL.pure rfl (PO.indexAddrV (i := j) Tryz.underlying127 Tryz.sizeOf179 hr_6 hr_6b rfl rfl (by omega)) ?_
              refine JL.pure rfl (PO.fieldAddrE fo179_1 hr_6 rfl) ?_
              refine JL.pure rfl (PO.fieldAddrE fo152_4 hr_6 rfl) ?_
              refine JL.ld rfl (LO.loadS1 (v := .int .i64 (((markG mkP 7 l k).getD j p0_).call.b)) hs_a (fun _ _ => List.not_mem_nil) rfl Tryz.isAgg3 (flat_at encP_len p0_ (markG mkP 7 l k) j 5 (by rw [markG_len]; omega) (by decide))) ?_
              refine JL.pure rfl (PO.move (v := .int .i64 (((((((k + 7 * j) + 1) + 1) + 1) + 1) + 1 : Nat) : Int)) rfl) ?_
              refine JL.pure rfl (PO.neqI rfl rfl) ?_
              refine JL.nil ?_
              refine JQ.seq ?_
              by_cases h_12 : (((markG mkP 7 l k).getD j p0_).call.b) = (((((((k + 7 * j) + 1) + 1) + 1) + 1) + 1 : Nat) : Int)
              · skip
                refine JC.condF (congrArg Value.bool (congrArg Bool.not (decide_eq_true h_12))) ?_
                refine JC.skip ?_
                refine JQ.seq ?_
                refine JC.seq ?_
                refine JC.region ?_
                refine JL.pure rfl (PO.move (v := .int .i64 (((((((k + 7 * j) + 1) + 1) + 1) + 1) + 1 : Nat) : Int)) rfl) ?_
                refine JL.pure rfl (PO.add (c := ((((((((k + 7 * j) + 1) + 1) + 1) + 1) + 1) + 1 : Nat) : Int)) rfl rfl (wr (by omega))) ?_
                refine JL.pure rfl (PO.assign (v := .int .i64 ((((((((k + 7 * j) + 1) + 1) + 1) + 1) + 1) + 1 : Nat) : Int)) rfl) ?_
                refine JL.nil ?_
                refine JQ.seq ?_
                refine JC.seq ?_
                refine JC.seq ?_
                refine JC.regionA [] 8 mixed (by simp) ?_
                refine JA.takeP 0 rfl (by kernel_rfl) (NP.th (NP.th (NP.bl (NP.th (NP.th (NP.bl (NP.th NP.body))))))) (by kernel_rfl) (by kernel_rfl) rfl (PO.move (v := .slice a l.length c) he_2) ?_
                refine JA.takeP 1 rfl (by kernel_rfl) (NP.th (NP.th (NP.bl (NP.th (NP.th (NP.bl (NP.th NP.body))))))) (by kernel_rfl) (by kernel_rfl) rfl (PO.move (v := .int .i64 ((j : Nat) : Int)) he_4) ?_
                refine JA.takeP 2 rfl (by kernel_rfl) (NP.th (NP.th (NP.bl (NP.th (NP.th (NP.bl (NP.th NP.body))))))) (by kernel_rfl) (by kernel_rfl) rfl (PO.indexAddrV (i := j) Tryz.underlying127 Tryz.sizeOf179 hr_6 hr_6b rfl rfl (by omega)) ?_
                refine JA.takeP 3 rfl (by kernel_rfl) (NP.th (NP.th (NP.bl (NP.th (NP.th (NP.bl (NP.th NP.body))))))) (by kernel_rfl) (by kernel_rfl) rfl (PO.fieldAddrE fo179_1 hr_6 rfl) ?_
                refine JA.takeP 4 rfl (by kernel_rfl) (NP.th (NP.th (NP.bl (NP.th (NP.th (NP.bl (NP.th NP.body))))))) (by kernel_rfl) (by kernel_rfl) rfl (PO.fieldAddrE fo152_5 hr_6 rfl) ?_
                refine JA.take 5 rfl (by kernel_rfl) (NP.th (NP.th (NP.bl (NP.th (NP.th (NP.bl (NP.th NP.body))))))) (by kernel_rfl) (by kernel_rfl) (by kernel_rfl) rfl (LO.loadS1 (v := str (((markG mkP 7 l k).getD j p0_).call.text)) hs_a (fun _ _ => List.not_mem_nil) rfl Tryz.isAgg9 (flat_at encP_len p0_ (markG mkP 7 l k) j 6 (by rw [markG_len]; omega) (by decide))) ?_
                refine JA.takeP 6 rfl (by kernel_rfl) (NP.th (NP.th (NP.bl (NP.th (NP.th (NP.bl (NP.th NP.body))))))) (by kernel_rfl) (by kernel_rfl) rfl (PO.move (v := .int .i64 ((((((((k + 7 * j) + 1) + 1) + 1) + 1) + 1) + 1 : Nat) : Int)) rfl) ?_
                refine JA.one (i := 7) (by kernel_rfl) ?_
                refine JX.op rfl rfl (JO.call [] Tryz.call102 rfl (C_markText (((((((k + 7 * j) + 1) + 1) + 1) + 1) + 1) + 1) (by omega) (by omega)) rfl (fun _ _ => trivial)) ?_
                rintro _ _ ⟨_, ⟨rfl, rfl⟩, rfl⟩
                refine ⟨(fun _ h => by cases h), ?_⟩
                refine JA.takeP 8 rfl (by kernel_rfl) (NP.th (NP.th (NP.bl (NP.th (NP.th (NP.bl (NP.th NP.body))))))) (by kernel_rfl) (by kernel_rfl) rfl (PO.neqS rfl rfl) ?_
                refine JA.done (by kernel_rfl) ?_
                refine JQ.seq ?_
                by_cases h_13 : (((markG mkP 7 l k).getD j p0_).call.text) = (mt (((((((k + 7 * j) + 1) + 1) + 1) + 1) + 1) + 1))
                · skip
                  refine JC.condF (congrArg Value.bool (congrArg Bool.not (decide_eq_true h_13))) ?_
                  refine JC.skip ?_
                  refine JQ.seq ?_
                  refine JC.region ?_
                  refine JL.pure rfl (PO.move (v := .int .i64 ((((((((k + 7 * j) + 1) + 1) + 1) + 1) + 1) + 1 : Nat) : Int)) rfl) ?_
                  refine JL.pure rfl (PO.add (c := (((((((((k + 7 * j) + 1) + 1) + 1) + 1) + 1) + 1) + 1 : Nat) : Int)) rfl rfl (wr (by omega))) ?_
                  refine JL.pure rfl (PO.assign (v := .int .i64 (((((((((k + 7 * j) + 1) + 1) + 1) + 1) + 1) + 1) + 1 : Nat) : Int)) rfl) ?_
                  refine JL.nil ?_
                  refine JQ.blockN ?_
                  refine JQ.seq ?_
                  refine JC.region ?_
                  refine JL.pure rfl (PO.move (v := .int .i64 ((j : Nat) : Int)) he_4) ?_
                  refine JL.pure rfl (PO.add (c := ((j + 1 : Nat) : Int)) rfl rfl (wr (by omega))) ?_
                  refine JL.pure rfl (PO.assign (v := .int .i64 ((j + 1 : Nat) : Int)) rfl) ?_
                  refine JL.nil ?_
                  refine JQ.again (l.length - (j + 1)) (by omega) ⟨j + 1, by omega, he_2, rfl, rfl, rfl, rfl⟩
                · skip
                  exfalso; rw [markG_get mkP 7 p0_ l k j hlt] at h_13; first | omega | exact h_13 rfl
              · skip
                exfalso; rw [markG_get mkP 7 p0_ l k j hlt] at h_12; first | omega | exact h_12 rfl
            · skip
              exfalso; rw [markG_get mkP 7 p0_ l k j hlt] at h_11; first | omega | exact h_11 rfl
          · skip
            exfalso; rw [markG_get mkP 7 p0_ l k j hlt] at h_10; first | omega | exact h_10 rfl
        · skip
          exfalso; rw [markG_get mkP 7 p0_ l k j hlt] at h_9; first | omega | exact h_9 rfl
      · skip
        exfalso; rw [markG_get mkP 7 p0_ l k j hlt] at h_8; first | omega | exact h_8 rfl
    · skip
      exfalso; rw [markG_get mkP 7 p0_ l k j hlt] at h_7; first | omega | exact h_7 rfl
  · skip
    refine JC.condF (congrArg Value.bool (decide_eq_false h_5)) ?_
    refine JC.exit ?_
    refine JQ.thenExit ?_
    refine JQ.thenExit ?_
    refine JQ.blockE ?_
    refine JQ.seq ?_
    refine JC.seq ?_
    refine JC.region ?_
    refine JL.pure rfl (PO.move (v := .int .i64 ((k + 7 * j : Nat) : Int)) he_3) ?_
    refine JL.pure rfl (PO.assign (v := .int .i64 ((k + 7 * j : Nat) : Int)) rfl) ?_
    refine JL.nil ?_
    refine JQ.seq ?_
    refine JC.ret ?_
    refine Done.one (.inl rfl) rfl (RV.tmp (v := .int .i64 ((k + 7 * j : Nat) : Int)) rfl) (List.nil_sublist _) ?_
    exact ⟨by rw [show j = l.length by omega], rfl⟩

end Go.Proofs.YtkmpmjficoohkaaGreat

set_option linter.unusedSimpArgs false
set_option linter.unusedVariables false
set_option linter.unnecessarySimpa false
namespace Go.Proofs.YtkmpmjficoohkaaGreat
open Go Go.RowKit
/-- A transaction; where its five rows lie. -/
structure TD where
  id : Int
  age : Int
  proc : Int
  began : Int
  calls : List CL
  ans : List AN
  rd : List Str
  wr : List Str
  marks : List Int
  state : Int
structure TA where
  a0 : Option Addr
  c0 : Nat
  a1 : Option Addr
  c1 : Nat
  a2 : Option Addr
  c2 : Nat
  a3 : Option Addr
  c3 : Nat
  a4 : Option Addr
  c4 : Nat
structure TD.ok (t : TD) (n : Nat) : Prop where
  h1 : -9223372036854775808 ≤ t.id ∧ t.id ≤ 9223372036854775807
  h2 : -9223372036854775808 ≤ t.age ∧ t.age ≤ 9223372036854775807
  h3 : -9223372036854775808 ≤ t.proc ∧ t.proc ≤ 9223372036854775807
  h4 : -9223372036854775808 ≤ t.began ∧ t.began ≤ 9223372036854775807
  h5 : -9223372036854775808 ≤ t.state ∧ t.state ≤ 9223372036854775807
  hc : t.calls.length ≤ n
  ha : t.ans.length ≤ n
  hr : t.rd.length ≤ n
  hw : t.wr.length ≤ n
  hm : t.marks.length ≤ n
end Go.Proofs.YtkmpmjficoohkaaGreat
