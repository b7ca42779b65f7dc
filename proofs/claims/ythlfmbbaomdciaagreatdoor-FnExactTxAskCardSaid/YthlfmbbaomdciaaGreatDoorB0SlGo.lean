/-
Texts of the walk, joined: what each one proves stands at its theorems.
-/
import Derived.Test.YthlfmbbaomdciaaGreatDoorB0SlAny
import Derived.Laws.IdiomStrings
set_option linter.unusedSimpArgs false
set_option linter.unusedVariables false
set_option linter.unnecessarySimpa false
namespace Go.Proofs.YthlfmbbaomdciaaGreatDoor
open Go Go.RowKit
def encC (c : Cell) : List Value := [str c.1, str c.2]

theorem flat_take {α : Type} {enc : α → List Value} {k : Nat} (hk : ∀ x, (enc x).length = k) (d : α) : ∀ (xs : List α) (i : Nat), i < xs.length → ((xs.flatMap enc).drop (i * k)).take k = enc (xs.getD i d)
 | [], i, h => by simp at h
 | x :: xs, 0, _ => by
   simp only [Nat.zero_mul, List.drop_zero, List.flatMap_cons, List.getD_cons_zero]
   rw [List.take_append_of_le_length (by rw [hk]; exact Nat.le_refl _), List.take_of_length_le (by rw [hk]; exact Nat.le_refl _)]
 | x :: xs, i + 1, h => by
   have hd : ((x :: xs).flatMap enc).drop ((i + 1) * k) = (xs.flatMap enc).drop (i * k) := by
     rw [List.flatMap_cons, Nat.succ_mul, Nat.add_comm, ← List.drop_drop]
     congr 1
     rw [List.drop_append_of_le_length (by rw [hk]; exact Nat.le_refl _), List.drop_of_length_le (by rw [hk]; exact Nat.le_refl _)]
     rfl
   rw [hd, List.getD_cons_succ]
   exact flat_take hk d xs i (by simpa using h)

theorem flat_at {α : Type} {enc : α → List Value} {k : Nat} (hk : ∀ x, (enc x).length = k) (d : α) (xs : List α) (i j : Nat) (hi : i < xs.length) (hj : j < k) : (xs.flatMap enc)[i * k + j]? = (enc (xs.getD i d))[j]? := by
 have := congrArg (fun l => l[j]?) (flat_take hk d xs i hi)
 simp only [List.getElem?_take, List.getElem?_drop, hj, if_true] at this
 exact this

theorem flat_length {α : Type} {enc : α → List Value} {k : Nat} (hk : ∀ x, (enc x).length = k) (xs : List α) : (xs.flatMap enc).length = xs.length * k := by
 induction xs with
 | nil => simp
 | cons x xs ih => rw [List.flatMap_cons, List.length_append, hk, ih, List.length_cons, Nat.succ_mul, Nat.add_comm]

theorem flat_set {α : Type} {enc : α → List Value} {k : Nat} (hk : ∀ x, (enc x).length = k) : ∀ (xs : List α) (i : Nat) (y : α), i < xs.length → (xs.flatMap enc).take (i * k) ++ enc y ++ (xs.flatMap enc).drop (i * k + k) = (xs.set i y).flatMap enc
 | [], i, y, h => by simp at h
 | x :: xs, 0, y, _ => by
   simp only [Nat.zero_mul, List.take_zero, List.nil_append, Nat.zero_add, List.flatMap_cons, List.set_cons_zero]
   rw [List.drop_append_of_le_length (by rw [hk]; exact Nat.le_refl _), List.drop_of_length_le (by rw [hk]; exact Nat.le_refl _)]
   rfl
 | x :: xs, i + 1, y, h => by
   have ih := flat_set hk xs i y (by simpa using h)
   simp only [List.set_cons_succ, List.flatMap_cons]
   rw [← ih]
   have e1 : (i + 1) * k = k + i * k := by rw [Nat.succ_mul, Nat.add_comm]
   rw [e1, List.take_append, List.drop_append, hk]
   have e2 : (enc x).take (k + i * k) = enc x := List.take_of_length_le (by rw [hk]; omega)
   have e3 : (enc x).drop (k + i * k + k) = [] := List.drop_of_length_le (by rw [hk]; omega)
   rw [e2, e3, show k + i * k - k = i * k by omega, show k + i * k + k - k = i * k + k by omega]
   simp [List.append_assoc]

theorem encC_len (c : Cell) : (encC c).length = 2 := rfl
@[reducible] def iv (n : Int) : Value := .int .i64 n
@[reducible] def nv (n : Nat) : Value := .int .i64 ((n : Nat) : Int)
@[reducible] def pv (p : Nat) : Value := .pointer (some ⟨p, 0, none⟩)
@[reducible] def zC : List Value := [.slice none 0 0, .slice none 0 0, .slice none 0 0]
theorem lb {a b : Nat} (h : Nat.ble a b = true) : a ≤ b := Nat.le_of_ble_eq_true h
theorem sL {α : Type} (a b : List α) : a.Sublist (a ++ b) := List.sublist_append_left a b
theorem cB {a b : Bool} (h : a = b) : Value.bool a = Value.bool b := congrArg Value.bool h
theorem cN {a b : Bool} (h : a = b) : (!a) = (!b) := congrArg Bool.not h
theorem dF {p : Prop} [d : Decidable p] (h : ¬ p) : decide p = false := decide_eq_false h
theorem dT {p : Prop} [d : Decidable p] (h : p) : decide p = true := decide_eq_true h
theorem nM {v : Value} : ∀ b, v.ownBlock = some b → b ∉ ([] : List Nat) := fun _ _ => List.not_mem_nil
theorem tS (k : Nat) (L : List Res) : (L.take k).Sublist L := List.take_sublist k L
theorem SB : (∀ (α : Type) [h : Decidable True] (a b : α), (if True then a else b) = a) ∧ (∀ (α : Type) [h : Decidable False] (a b : α), (if False then a else b) = b) ∧ ((false = true) = False) ∧ ((!true) = false) ∧ ((!false) = true) := ⟨fun _ _ _ _ => by simp, fun _ _ _ _ => by simp, by simp, rfl, rfl⟩
theorem LE : (∀ (α : Type) (a b : List α), (a ++ b).length = a.length + b.length) ∧ (∀ (α : Type) (x : α) (a : List α), (x :: a).length = a.length + 1) ∧ (∀ (α : Type), ([] : List α).length = 0) ∧ (∀ (α : Type) (i : Nat) (a : List α), (a.take i).length = min i a.length) ∧ (∀ (α : Type) (i : Nat) (a : List α), (a.drop i).length = a.length - i) :=
 ⟨fun _ _ _ => List.length_append, fun _ _ _ => List.length_cons, fun _ => List.length_nil, fun _ _ _ => List.length_take, fun _ _ _ => List.length_drop⟩
theorem atC {s : List Cell} {i : Nat} (h : i < s.length) : ((s.flatMap encC).drop (i * 2)).take 2 = [str (s.getD i c0).1, str (s.getD i c0).2] := flat_take encC_len c0 s i h
theorem atC1 {s : List Cell} {i : Nat} (h : i < s.length) : (s.flatMap encC)[i * 2]? = some (str (s.getD i c0).1) := flat_at encC_len c0 s i 0 h (by decide)
theorem atC2 {s : List Cell} {i : Nat} (h : i < s.length) : (s.flatMap encC)[i * 2 + 1]? = some (str (s.getD i c0).2) := flat_at encC_len c0 s i 1 h (by decide)
theorem atS {l : List Str} {i : Nat} (h : i < l.length) : (l.map str)[i * 1]? = some (str (l.getD i [])) := by simp [h]
theorem atI {l : List Int} {i : Nat} (h : i < l.length) : (l.map (Value.int .i64))[i * 1]? = some (.int .i64 (l.getD i 0)) := by simp [h]
theorem lenC (s : List Cell) : (s.flatMap encC).length = s.length * 2 := flat_length encC_len s
theorem setC {s : List Cell} {i : Nat} {c : Cell} (h : i < s.length) : (s.flatMap encC).take (i * 2) ++ [str c.1, str c.2] ++ (s.flatMap encC).drop (i * 2 + 2) = (s.set i c).flatMap encC := flat_set encC_len s i c h
theorem oneC (s : List Cell) : ∀ u ∈ s.flatMap encC, u.oneCell' = true := by
 intro u hu
 obtain ⟨c, _, hc⟩ := List.mem_flatMap.1 hu
 simp only [encC, List.mem_cons, List.not_mem_nil, or_false] at hc
 rcases hc with rfl | rfl <;> rfl
theorem oneS (l : List Str) : ∀ u ∈ l.map str, u.oneCell' = true := by
 intro u hu
 obtain ⟨c, _, rfl⟩ := List.mem_map.1 hu
 rfl
theorem oneI (l : List Int) : ∀ u ∈ l.map (Value.int .i64), u.oneCell' = true := by
 intro u hu
 obtain ⟨c, _, rfl⟩ := List.mem_map.1 hu
 rfl

section
variable {P : Program} {ops : Array Oper} {Q : Exit → Act → World → Prop} {n : Nat} {w0 w : World} {D : List Nat} {L : List Res} {e : Env}
variable {d : Option Tmp} {ty : TypeId} {pos : String} {aft : Array Edge} {gd : Option (Nat × Bool)}

/-- A store behind a slice whose row is owned. -/
theorem jx (i : Nat) {x y : Operand} {t el k k0 m c o : Nat} {a : Option Addr} {cs cs' vs : List Value} {v : Value} (hL : L[i]? = some (.row (.slice a m c) el k0 m cs)) (hx : rd n e x = elp a o) (hy : rd n e y = v) (hv : v.cells.toList = vs)
   (hs : ∀ w, (sizeOf t).run P w = .ok k w) (hk : vs.length = k) (h1 : vs.all (·.oneCell') = true) (h0 : 0 < k) (hfit : o + k ≤ cs.length) (hc : cs.take o ++ vs ++ cs.drop (o + k) = cs') :
   JO P n w0 D L e ⟨d, .store t x y, ty, pos, aft, gd⟩ (fun _ L' => L' = L.set i (.row (.slice a m c) el k0 m cs')) := JO.ofRunU fun w hw => by
 have hrow := hw.get hL
 have hcl := hrow.1
 rcases hrow.2 with ⟨hvv, hm0⟩ | ⟨g, cap, cur, hvv, hg0, hg, h2, h3, h4, h5⟩
 · subst hm0
   simp only [Nat.zero_mul] at hcl
   omega
 · simp only [Value.slice.injEq] at hvv
   obtain ⟨rfl, _, rfl⟩ := hvv
   have hcur : cs.length ≤ cur.size := by rw [← h5, List.length_take, Array.length_toList]; exact Nat.min_le_right _ _
   have hst := run_storeCells_R P g o el vs 0 cur w hg (by omega) (fun u hu => (List.all_eq_true.1 h1) u hu)
   simp only [Nat.add_zero, hk] at hst
   refine ⟨_, w.setRow g (cur.toList.take o ++ vs ++ cur.toList.drop (o + k)).toArray, ?_, rfl, ?_⟩
   · have hcs : v.cells.size = k := by rw [← hk, ← hv, Array.length_toList]
     simp [execOp, hx, elp, hy, Instr.storeAt, Instr.sureAddr, storeVar, hs, hcs, hv, hst]
   · refine hw.turn1 hL rfl rfl rfl (by simp) (fun q _ hq => setRow_other w g q _ (by simpa [Res.ids, Value.ownBlock] using hq)) ?_ (by simp [Res.ids, Value.ownBlock]) (fun q hq => .inl (by simpa [Res.ids, Value.ownBlock] using hq))
     have hl' : cs'.length = m * k0 := by
       rw [← hc, List.length_append, List.length_append, List.length_take, List.length_drop, hk]
       omega
     refine ⟨hl', .inr ⟨g, c, _, rfl, hg0, hg.setRow (by simp only [List.size_toArray, List.length_append, List.length_take, List.length_drop, Array.length_toList]; omega), h2, h3, ?_, ?_⟩⟩
     · simp only [List.size_toArray, List.length_append, List.length_take, List.length_drop, Array.length_toList, hk]
       omega
     · show (cur.toList.take o ++ vs ++ cur.toList.drop (o + k)).take (m * k0) = cs'
       have e1 : cs.take o = cur.toList.take o := by rw [← h5, List.take_take, Nat.min_eq_left (by omega)]
       have e2 : cs.drop (o + k) = (cur.toList.drop (o + k)).take (m * k0 - (o + k)) := by rw [← h5, List.drop_take]
       rw [← hc, e1, e2, List.take_append]
       have e3 : (cur.toList.take o ++ vs).length = o + k := by
         rw [List.length_append, List.length_take, Array.length_toList, hk]; omega
       rw [e3, List.take_of_length_le (by rw [e3]; omega)]

/-- What is picked, as a list. -/
def pickA : List Nat → List Res → List Res
 | [], _ => []
 | i :: is, L => L.getD i (.rows []) :: pickA is (L.eraseIdx i)
def okP : List Nat → List Res → Bool
 | [], _ => true
 | i :: is, L => Nat.blt i L.length && okP is (L.eraseIdx i)
theorem pickA_perm : ∀ (is : List Nat) (L : List Res), okP is L = true → ∃ F, L.Perm (pickA is L ++ F)
 | [], L, _ => ⟨L, List.Perm.refl _⟩
 | i :: is, L, h => by
   unfold okP at h
   simp only [Bool.and_eq_true, Nat.blt_eq] at h
   obtain ⟨F, hF⟩ := pickA_perm is (L.eraseIdx i) h.2
   refine ⟨F, ?_⟩
   have hg : L[i]? = some (L.getD i (.rows [])) := by
     rw [List.getD_eq_getElem?_getD, List.getElem?_eq_getElem h.1]
     rfl
   unfold pickA
   exact (perm_erase i _ hg).trans (List.Perm.cons _ hF)
theorem JQ.pk (is : List Nat) {x : Exit} (h : JQ Q x n w0 D (pickA is L) e) (hok : okP is L = true := by kernel_rfl) : JQ Q x n w0 D L e := fun w hw => by
 obtain ⟨F, hF⟩ := pickA_perm is L hok
 exact h w ((hw.perm hF.symm).sub (List.sublist_append_left _ _))
theorem JQ.pick (is : List Nat) {x : Exit} {A F : List Res} (hp : pick is L = some (A, F)) (h : JQ Q x n w0 D A e) : JQ Q x n w0 D L e := fun w hw => h w ((hw.perm (pick_perm is hp).symm).sub (List.sublist_append_left _ _))
theorem JC.pick (is : List Nat) {c : Code} {A F : List Res} (hp : pick is L = some (A, F)) (h : JC P Q n w0 D A c e) : JC P Q n w0 D L c e := fun w hw => h w ((hw.perm (pick_perm is hp).symm).sub (List.sublist_append_left _ _))

theorem St.seeOut_ {v : Value} {k m : Nat} {cs : List Value} (hw : St w0 D L w) (hs : Sees w0 v k m cs) (hD : ∀ b, v.ownBlock = some b → b ∉ D) : Sees w v k m cs := by
 obtain ⟨hl, h⟩ := hs
 refine ⟨hl, ?_⟩
 rcases h with h | ⟨b, o, cap, hv, h1, h2, h3, h4⟩
 · exact .inl h
 · exact .inr ⟨b, o, cap, hv, h1, h2, Nat.lt_of_lt_of_le h3 hw.size, fun j u hj => cell_of_keep hw.qw rfl (hD b (by subst hv; simp [Value.ownBlock])) (h4 j u hj)⟩

end
theorem wr8 {x c : Int} (h : x = c ∧ 0 ≤ x ∧ x ≤ 255) : IntKind.u8.wrap x = c := by
 have : IntKind.u8.wrap x = x % 256 := by simp [IntKind.wrap, IntKind.bits, IntKind.signed]
 omega
/-- A byte, as a cell. -/
abbrev encB (b : UInt8) : Value := .int .u8 (b.toNat : Int)
theorem encB_of (k : Nat) (h : k < 256) : encB (UInt8.ofNat k) = .int .u8 (k : Int) := by
 unfold encB
 rw [UInt8.toNat_ofNat_of_lt' h]
theorem oneB (l : Str) : ∀ u ∈ l.map encB, u.oneCell' = true := by
 intro u hu
 obtain ⟨c, _, rfl⟩ := List.mem_map.1 hu
 rfl

section
variable {P : Program} {ops : Array Oper} {Q : Exit → Act → World → Prop} {n : Nat} {w0 w : World} {D : List Nat} {L : List Res} {e : Env}
variable {d : Option Tmp} {ty : TypeId} {pos : String} {aft : Array Edge} {gd : Option (Nat × Bool)}

theorem PO.quoN {x y : Operand} {k : IntKind} {a b : Int} {c : Int} {t u : TypeId} (hx : rd n e x = .int k a) (hy : rd n e y = .int k b) (hb : b ≠ 0) (ha : 0 ≤ a) (hb0 : 0 ≤ b) (hc : k.wrap (a / b) = c) : PO P n e ⟨d, .binOp .quo t x y u, ty, pos, aft, gd⟩ (.int k c) :=
 PO.quo hx hy hb (by rw [Int.tdiv_eq_ediv_of_nonneg ha]; exact hc)
theorem PO.remN {x y : Operand} {k : IntKind} {a b c : Int} {t u : TypeId} (hx : rd n e x = .int k a) (hy : rd n e y = .int k b) (hb : b ≠ 0) (ha : 0 ≤ a) (hc : a % b = c) : PO P n e ⟨d, .binOp .rem t x y u, ty, pos, aft, gd⟩ (.int k c) :=
 PO.rem hx hy hb (by rw [Int.tmod_eq_emod_of_nonneg ha]; exact hc)

/-- string(b), where b is owned. -/
theorem LO.toStr (i : Nat) {x : Operand} {el el2 s u m c : Nat} {a : Option Addr} {cs : List Value} (bs : Str) (hL : L[i]? = some (.row (.slice a m c) el2 1 m cs)) (hs : P.underlying s = some (.slice el)) (he : P.underlying el = some (.int .u8)) (hd : P.underlying u = some .string)
   (hx : rd n e x = .slice a m c) (hc : cs = bs.map encB) : LO P n w0 D L e ⟨d, .convert s u x, ty, pos, aft, gd⟩ (str bs) := fun w hw => by
 subst hc
 have hrow := hw.get hL
 have hm : bs.length = m := by have := hrow.1; simpa using this
 subst hm
 simp only [execOp, hx]
 cases a with
 | none =>
   rcases hrow.2 with ⟨_, h0⟩ | ⟨g, cap, cur, hv, _⟩
   · have : bs = [] := by simpa using h0
     subst this
     simp [convert, run_underlying hs, run_underlying hd, run_underlying he, Conv.bytesToString, str]
     rfl
   · simp at hv
 | some g =>
   have h1 := run_convert_bytes_back (P := P) w s u el g c bs hs he hd (fun j hj => by
     obtain ⟨g', hg', hcell⟩ := row_cell hrow (o := j) (u := encB (bs[j])) (by simp [hj])
     simp only [Option.some.injEq] at hg'
     subst hg'
     rw [add_lit, Nat.zero_add]
     exact hcell)
   simp [h1, str]

end

theorem drop_at {α : Type} {l : List α} {i : Nat} {v : α} (h : l[i]? = some v) : l.drop i = v :: l.drop (i + 1) := by
 obtain ⟨h1, h2⟩ := List.getElem?_eq_some_iff.1 h
 rw [List.drop_eq_getElem_cons h1, h2]
theorem take_at {α : Type} {l : List α} {i : Nat} {v : α} (h : l[i]? = some v) : l.take (i + 1) = l.take i ++ [v] := by
 rw [List.take_add_one, h]; rfl
/-- The text of a mark. -/
def mtAcc (k : Nat) (out : Str) : Str := if h : k = 0 then out else mtAcc (k / 10) (UInt8.ofNat (48 + k % 10) :: out)
termination_by k
decreasing_by omega
theorem mtAcc_step {k : Nat} {out : Str} (h : 0 < k) : mtAcc (k / 10) ([UInt8.ofNat (48 + k % 10)] ++ out) = mtAcc k out := by
 rw [mtAcc.eq_1 k, dif_neg (by omega)]
 rfl
theorem mtAcc_zero {k : Nat} {out : Str} (h : k = 0) : mtAcc k out = out := by
 subst h
 rw [mtAcc]; rfl
/- what is given of the program's types -/
 class TyS (P : Program) (t : TypeId) (k : outParam Nat) : Prop where h : ∀ w, (sizeOf t).run P w = .ok k w
 class TyA (P : Program) (t : TypeId) (b : outParam Bool) : Prop where h : ∀ w, (isAgg t).run P w = .ok b w
 class TyZ (P : Program) (t : TypeId) (z : outParam Value) : Prop where h : ∀ w, (zeroValue t).run P w = .ok z w
 class TyU (P : Program) (t : TypeId) (u : outParam TypeDesc) : Prop where h : P.underlying t = some u
 class TyF (P : Program) (s f : Nat) (o : outParam Nat) : Prop where h : FieldOff P s f o

def updL : List (Nat × Value) → Env → Env
 | [], e => e
 | (k, v) :: l, e => upd (updL l e) k v
theorem upd_self {e : Env} {i : Nat} {v : Value} (h : e i = v) : upd e i v = e := by
 funext j
 unfold upd
 cases hb : Nat.beq j i with
 | true => rw [Nat.eq_of_beq_eq_true hb]; exact h.symm
 | false => rfl
def EL (e : Env) (l : List (Nat × Value)) : Prop := ∃ e0, e = updL l e0
theorem EL.nil {e : Env} : EL e [] := ⟨e, rfl⟩
theorem EL.cons {e : Env} {l : List (Nat × Value)} {k : Nat} {v : Value} (h : e k = v) (t : EL e l) : EL e ((k, v) :: l) := by
 obtain ⟨e0, he⟩ := t
 refine ⟨e0, ?_⟩
 show e = upd (updL l e0) k v
 rw [← he]
 exact (upd_self h).symm
theorem EL.go {e : Env} {l : List (Nat × Value)} (h : EL e l := by (repeat (first | refine EL.cons rfl ?_ | exact EL.nil))) : EL e l := h

theorem bT {b : Bool} (h : b = false) : (!b) = true := by rw [h]; rfl
theorem bF {b : Bool} (h : b = true) : (!b) = false := by rw [h]; rfl
theorem eT {p : Prop} {d : Decidable p} (h : p) : @decide p d = true := decide_eq_true h
theorem eF {p : Prop} {d : Decidable p} (h : ¬ p) : @decide p d = false := decide_eq_false h
theorem fT {p : Prop} {d : Decidable p} (h : ¬ p) : (!@decide p d) = true := by rw [decide_eq_false h]; rfl
theorem fF {p : Prop} {d : Decidable p} (h : p) : (!@decide p d) = false := by rw [decide_eq_true h]; rfl
theorem bnT {a : Bool} (h : a = false) : a = !true := h
theorem bnF {a : Bool} (h : a = true) : a = !false := h
theorem bQ {a b : Bool} (h : a = b := by ((first | with_reducible refine bnT ?_ | with_reducible refine bnF ?_ | skip); first | with_reducible (first | rfl | assumption | exact eT ‹_› | exact eF ‹_› | exact fT ‹_› | exact fF ‹_› | exact bT ‹_› | exact bF ‹_› | exact bT (fF ‹_›) | exact bF (fT ‹_›) | exact eT rfl | exact fF rfl | (refine bT ?_; simp only []) | (refine bF ?_; simp only []) | (refine eT ?_; decide) | (refine eF ?_; decide) | (refine fT ?_; decide) | (refine fF ?_; decide) | fail) | fail)) : a = b := h
theorem aQ {α : Type} {L : List α} (i : Nat) {r : Option α} (h : L[i]? = r) : L[i]? = r := h
def callsB (P : Program) (f : FuncId) : Bool := match P.funcs[f]? with
 | some fn => !(fn.name == "runtime.NumGoroutine") && fn.body.isSome
 | none => false
theorem calls_run {P : Program} {f : FuncId} (h : callsB P f = true) : ∀ args w, (callFunc f args).run P w = .ok (.enter f args) w := fun args w => by
 unfold callsB at h
 cases hf : P.funcs[f]? with
 | none => rw [hf] at h; cases h
 | some fn =>
   rw [hf] at h
   simp only [Bool.and_eq_true, Bool.not_eq_true'] at h
   obtain ⟨h1, h2⟩ := h
   have h3 : fn.body.isNone = false := by cases hb : fn.body <;> simp_all
   simp only [callFunc, Sem.run_bind, run_program, Result.andThen_ok, hf, h1, h3]
   rfl

section
variable {P : Program} {ops : Array Oper} {Q : Exit → Act → World → Prop} {n : Nat} {w0 : World} {D : List Nat} {L M : List Res} {e : Env} {z fuel : Nat} {listed : Array Bool}
variable {d : Option Tmp} {ty : TypeId} {pos : String} {aft : Array Edge} {gd : Option (Nat × Bool)}

theorem kB (i : Nat) {v : Value} {l : List Oper} (hv : e i = v) (h : JL P ops Q n w0 D L l (upd e i v)) : JL P ops Q n w0 D L l e := by rwa [upd_self hv] at h
theorem kA (i : Nat) {v : Value} {c : Code} (hv : e i = v) (h : JC P Q n w0 D L c (upd e i v)) : JC P Q n w0 D L c e := by rwa [upd_self hv] at h
theorem jv (i : Nat) {v : Value} {x : Exit} (hv : e i = v) (h : JQ Q x n w0 D L (upd e i v)) : JQ Q x n w0 D L e := by rwa [upd_self hv] at h
theorem kC (i : Nat) {v : Value} (hv : e i = v) (h : JA P ops Q n w0 D M z fuel listed L (upd e i v)) : JA P ops Q n w0 D M z fuel listed L e := by rwa [upd_self hv] at h

theorem PO.x20 {x : Operand} {a b : Value} (hx : rd n e x = .tuple #[a, b]) : PO P n e ⟨d, .extract x 0, ty, pos, aft, gd⟩ a := PO.extract hx rfl
theorem PO.x21 {x : Operand} {a b : Value} (hx : rd n e x = .tuple #[a, b]) : PO P n e ⟨d, .extract x 1, ty, pos, aft, gd⟩ b := PO.extract hx rfl
theorem PO.x30 {x : Operand} {a b c : Value} (hx : rd n e x = .tuple #[a, b, c]) : PO P n e ⟨d, .extract x 0, ty, pos, aft, gd⟩ a := PO.extract hx rfl
theorem PO.x31 {x : Operand} {a b c : Value} (hx : rd n e x = .tuple #[a, b, c]) : PO P n e ⟨d, .extract x 1, ty, pos, aft, gd⟩ b := PO.extract hx rfl
theorem PO.x32 {x : Operand} {a b c : Value} (hx : rd n e x = .tuple #[a, b, c]) : PO P n e ⟨d, .extract x 2, ty, pos, aft, gd⟩ c := PO.extract hx rfl
theorem PO.fa {x : Operand} {s f off b o : Nat} [hf : TyF P s f off] (hx : rd n e x = .pointer (some ⟨b, o, none⟩)) : PO P n e ⟨d, .fieldAddr s x f, ty, pos, aft, gd⟩ (.pointer (some ⟨b, o + off, none⟩)) := PO.fieldAddr hf.h hx
theorem PO.fe {x : Operand} {s f off o : Nat} {a : Option Addr} [hf : TyF P s f off] (hx : rd n e x = elp a o) (ha : a.isSome = true) : PO P n e ⟨d, .fieldAddr s x f, ty, pos, aft, gd⟩ (elp a (o + off)) := PO.fieldAddrE hf.h ha hx
theorem PO.ls {x : Operand} {a : Str} {t : TypeId} [ht : TyU P t .string] (hx : rd n e x = str a) : PO P n e ⟨d, .call ⟨.builtin .len, #[x], #[t]⟩, ty, pos, aft, gd⟩ (.int .i64 a.length) := PO.lenS ht.h hx
theorem PO.lv {x : Operand} {a : Option Addr} {m c : Nat} {t el : TypeId} [ht : TyU P t (.slice el)] (hx : rd n e x = .slice a m c) : PO P n e ⟨d, .call ⟨.builtin .len, #[x], #[t]⟩, ty, pos, aft, gd⟩ (.int .i64 m) := PO.lenV ht.h hx
theorem PO.adM {x y : Operand} {a b : Nat} {t u : TypeId} (hx : rd n e x = .int .i64 (a : Int)) (hy : rd n e y = .int .i64 (b : Int)) (h : a + b ≤ 9223372036854775807) : PO P n e ⟨d, .binOp .add t x y u, ty, pos, aft, gd⟩ (.int .i64 ((a + b : Nat) : Int)) :=
 PO.add hx hy (wr ⟨rfl, by omega⟩)
theorem PO.adN {x y : Operand} {a b : Nat} {t u : TypeId} (hx : rd n e x = .int .i64 (a : Int)) (hy : rd n e y = .int .i64 (OfNat.ofNat b)) (h : a + OfNat.ofNat b ≤ 9223372036854775807) : PO P n e ⟨d, .binOp .add t x y u, ty, pos, aft, gd⟩ (.int .i64 ((a + OfNat.ofNat b : Nat) : Int)) := PO.adM hx hy h
theorem PO.adL {x y : Operand} {a b : Nat} {t u : TypeId} (hx : rd n e x = .int .i64 (OfNat.ofNat a)) (hy : rd n e y = .int .i64 (b : Int)) (h : OfNat.ofNat a + b ≤ 9223372036854775807) : PO P n e ⟨d, .binOp .add t x y u, ty, pos, aft, gd⟩ (.int .i64 ((OfNat.ofNat a + b : Nat) : Int)) := PO.adM hx hy h
theorem PO.adI {x y : Operand} {a b : Int} {t u : TypeId} (hx : rd n e x = .int .i64 a) (hy : rd n e y = .int .i64 b) (h : -9223372036854775808 ≤ a + b ∧ a + b ≤ 9223372036854775807) : PO P n e ⟨d, .binOp .add t x y u, ty, pos, aft, gd⟩ (.int .i64 (a + b)) := PO.add hx hy (wr ⟨rfl, h⟩)
theorem PO.muM {x y : Operand} {a b : Nat} {t u : TypeId} (hx : rd n e x = .int .i64 (a : Int)) (hy : rd n e y = .int .i64 (b : Int)) (h : a * b ≤ 9223372036854775807) : PO P n e ⟨d, .binOp .mul t x y u, ty, pos, aft, gd⟩ (.int .i64 ((a * b : Nat) : Int)) :=
 PO.mul hx hy (by rw [← Int.natCast_mul]; exact wr ⟨rfl, by omega⟩)
theorem PO.muN {x y : Operand} {a b : Nat} {t u : TypeId} (hx : rd n e x = .int .i64 (a : Int)) (hy : rd n e y = .int .i64 (OfNat.ofNat b)) (h : a * OfNat.ofNat b ≤ 9223372036854775807) : PO P n e ⟨d, .binOp .mul t x y u, ty, pos, aft, gd⟩ (.int .i64 ((a * OfNat.ofNat b : Nat) : Int)) := PO.muM hx hy h
theorem PO.quM {x y : Operand} {a b : Nat} {t u : TypeId} (hx : rd n e x = .int .i64 (a : Int)) (hy : rd n e y = .int .i64 (b : Int)) (h0 : 0 < b) (h : a ≤ 9223372036854775807) : PO P n e ⟨d, .binOp .quo t x y u, ty, pos, aft, gd⟩ (.int .i64 ((a / b : Nat) : Int)) := by
 have h2 : a / b ≤ a := Nat.div_le_self _ _
 exact PO.quoN hx hy (by omega) (by omega) (by omega) (by rw [← Int.natCast_ediv]; exact wr ⟨rfl, by generalize a / b = q at *; omega⟩)
theorem PO.quN {x y : Operand} {a b : Nat} {t u : TypeId} (hx : rd n e x = .int .i64 (a : Int)) (hy : rd n e y = .int .i64 (OfNat.ofNat b)) (h0 : 0 < (OfNat.ofNat b : Nat)) (h : a ≤ 9223372036854775807) : PO P n e ⟨d, .binOp .quo t x y u, ty, pos, aft, gd⟩ (.int .i64 ((a / OfNat.ofNat b : Nat) : Int)) := PO.quM hx hy h0 h
theorem PO.reM {x y : Operand} {k : IntKind} {a b : Nat} {t u : TypeId} (hx : rd n e x = .int k (a : Int)) (hy : rd n e y = .int k (b : Int)) (h0 : 0 < b) : PO P n e ⟨d, .binOp .rem t x y u, ty, pos, aft, gd⟩ (.int k ((a % b : Nat) : Int)) := PO.remN hx hy (by omega) (by omega) (by simp)
theorem PO.reN {x y : Operand} {k : IntKind} {a b : Nat} {t u : TypeId} (hx : rd n e x = .int k (a : Int)) (hy : rd n e y = .int k (OfNat.ofNat b)) (h0 : 0 < (OfNat.ofNat b : Nat)) : PO P n e ⟨d, .binOp .rem t x y u, ty, pos, aft, gd⟩ (.int k ((a % OfNat.ofNat b : Nat) : Int)) := PO.reM hx hy h0
theorem PO.ad {x y : Operand} {a b : Str} {t u : TypeId} (hx : rd n e x = str a) (hy : rd n e y = str b) (hl : a.length + b.length ≤ 9223372036854775807) : PO P n e ⟨d, .binOp .add t x y u, ty, pos, aft, gd⟩ (str (a ++ b)) := PO.addS hx hy hl
theorem PO.ix {x y : Operand} {a : Str} {k : IntKind} {i : Nat} {t : TypeId} [ht : TyU P t .string] (hx : rd n e x = str a) (hy : rd n e y = .int k (i : Int)) (hi : i < a.length) : PO P n e ⟨d, .index t x y, ty, pos, aft, gd⟩ (.int .u8 ((a.getD i 0).toNat : Int)) := PO.indexS ht.h hx hy (getD_some hi)
theorem PO.ia {x y : Operand} {a : Option Addr} {m c : Nat} {k : IntKind} {i s : Nat} {t el : TypeId} [ht : TyU P t (.slice el)] [hs : TyS P el s] (hx : rd n e x = .slice a m c) (hy : rd n e y = .int k (i : Int)) (ha : a.isSome = true) (hsp : a.bind (·.spot) = none) (hi : i < m) :
   PO P n e ⟨d, .indexAddr t x y, ty, pos, aft, gd⟩ (elp a (i * s)) := PO.indexAddrV ht.h hs.h ha hsp hx hy hi
theorem PO.x40 {x : Operand} {a b c f : Value} (hx : rd n e x = .tuple #[a, b, c, f]) : PO P n e ⟨d, .extract x 0, ty, pos, aft, gd⟩ a := PO.extract hx rfl
theorem PO.x41 {x : Operand} {a b c f : Value} (hx : rd n e x = .tuple #[a, b, c, f]) : PO P n e ⟨d, .extract x 1, ty, pos, aft, gd⟩ b := PO.extract hx rfl
theorem PO.x42 {x : Operand} {a b c f : Value} (hx : rd n e x = .tuple #[a, b, c, f]) : PO P n e ⟨d, .extract x 2, ty, pos, aft, gd⟩ c := PO.extract hx rfl
theorem PO.x43 {x : Operand} {a b c f : Value} (hx : rd n e x = .tuple #[a, b, c, f]) : PO P n e ⟨d, .extract x 3, ty, pos, aft, gd⟩ f := PO.extract hx rfl
theorem PO.pk {c x y : Operand} {b : Bool} {v : Value} (hc : rd n e c = .bool b) (hb : b = true) (hx : rd n e x = v) : PO P n e ⟨d, .pick c x y, ty, pos, aft, gd⟩ v := PO.pickT (hc.trans (cB hb)) hx
theorem PO.pK {c x y : Operand} {b : Bool} {v : Value} (hc : rd n e c = .bool b) (hb : b = false) (hx : rd n e y = v) : PO P n e ⟨d, .pick c x y, ty, pos, aft, gd⟩ v := PO.pickF (hc.trans (cB hb)) hx
/-- An operation that reckons. -/
theorem PO.go {o : Oper} {v : Value} (h : PO P n e o v := by first
 | exact PO.move rfl | exact PO.assign rfl | exact PO.fa rfl | exact PO.x20 rfl | exact PO.x21 rfl | exact PO.x30 rfl | exact PO.x31 rfl | exact PO.x32 rfl
 | (refine PO.adN rfl rfl ?_; omega) | (refine PO.adM rfl rfl ?_; omega) | (refine PO.adL rfl rfl ?_; omega) | (refine PO.adI rfl rfl ?_; omega) | exact PO.lss rfl rfl | exact PO.not rfl | exact PO.eqlI rfl rfl | exact PO.neqI rfl rfl | exact PO.lv rfl | exact PO.ls rfl
 | (refine PO.ia rfl rfl ?_ ?_ ?_; assumption; assumption; omega) | (refine PO.fe rfl ?_; assumption)
 | (refine PO.pk rfl ?_ rfl; exact bQ) | (refine PO.pK rfl ?_ rfl; exact bQ)
 | exact PO.leq rfl rfl | exact PO.gtr rfl rfl | exact PO.geq rfl rfl
 | (refine PO.ad rfl rfl ?_; (try simp only [LE]); omega) | exact PO.eqlS rfl rfl | exact PO.neqS rfl rfl | exact PO.lssS rfl rfl | exact PO.gtrS rfl rfl | exact PO.geqS rfl rfl | exact PO.nilCheck rfl
 | (refine PO.muN rfl rfl ?_; omega) | (refine PO.quN rfl rfl (by decide) ?_; omega) | (refine PO.reN rfl rfl ?_; decide)
 | (refine PO.ix rfl rfl ?_; omega) | exact PO.x40 rfl | exact PO.x41 rfl | exact PO.x42 rfl | exact PO.x43 rfl | fail) : PO P n e o v := h
theorem LO.l1 {x : Operand} {i t ty' b o : Nat} {cs : List Value} {v : Value} {fr : Nat × Nat} (ht : TyA P t false) (hx : rd n e x = .pointer (some ⟨b, o, none⟩)) (hL : L[i]? = some (.blk b (.cells cs.toArray ty' fr))) (hc : cs[o]? = some v) :
   LO P n w0 D L e ⟨d, .load t x, ty, pos, aft, gd⟩ v := LO.load1 i hL hx ht.h hc
theorem LO.lk {x : Operand} {i t ty' b o k : Nat} {cs vs : List Value} {fr : Nat × Nat} (ht : TyA P t true) (hs : TyS P t k) (hx : rd n e x = .pointer (some ⟨b, o, none⟩)) (hL : L[i]? = some (.blk b (.cells cs.toArray ty' fr))) (hc : (cs.drop o).take k = vs) (hk : vs.length = k) :
   LO P n w0 D L e ⟨d, .load t x, ty, pos, aft, gd⟩ (.agg vs.toArray) := jl i hL hx ht.h hs.h hc hk
theorem agQ {α : Type} {L : List α} {i : Nat} {r : Option α} (h : L[i]? = r := by first | exact aQ 0 rfl | exact aQ 1 rfl | exact aQ 2 rfl | exact aQ 3 rfl | exact aQ 4 rfl | exact aQ 5 rfl | exact aQ 6 rfl | exact aQ 7 rfl | exact aQ 8 rfl | exact aQ 9 rfl | exact aQ 10 rfl | exact aQ 11 rfl | exact aQ 12 rfl | fail) : L[i]? = r := h
/-- A load out of a block. -/
theorem LO.go {o : Oper} {v : Value} (h : LO P n w0 D L e o v := by first | (apply LO.l1; infer_instance; exact rfl; exact agQ; exact rfl) | (apply LO.lk; infer_instance; infer_instance; exact rfl; exact agQ; exact rfl; exact rfl) | fail) : LO P n w0 D L e o v := h
theorem JL.pg {o : Oper} {rest : List Oper} {v : Value} (hg : o.guard = none) (ho : PO P n e o v) (h : JL P ops Q n w0 D L rest (updO e o.dst v)) : JL P ops Q n w0 D L (o :: rest) e := kF hg ho h
theorem JL.lg {o : Oper} {rest : List Oper} {v : Value} (hg : o.guard = none) (ho : LO P n w0 D L e o v) (h : JL P ops Q n w0 D L rest (updO e o.dst v)) : JL P ops Q n w0 D L (o :: rest) e := JL.ld hg ho h
theorem JL.gn {o : Oper} {rest : List Oper} {v : Value} {j : Nat} {b b' : Bool} {t : Tmp} (hg : o.guard = some (j, b)) (hj : (ops[j]?).bind (·.dst) = some t) (ht : Nat.blt t n = true) (hv : e t = .bool b') (hb : b' = b)
   (ho : LO P n w0 D L e o v) (h : JL P ops Q n w0 D L rest (updO e o.dst v)) : JL P ops Q n w0 D L (o :: rest) e := jW hg hj ht (hv.trans (cB hb)) (jm ho) fun _ _ ⟨hv, hL⟩ => by subst hv; subst hL; exact h
theorem JL.gf {o : Oper} {rest : List Oper} {j : Nat} {b b' : Bool} {t : Tmp} (hg : o.guard = some (j, b)) (hj : (ops[j]?).bind (·.dst) = some t) (ht : Nat.blt t n = true) (hv : e t = .bool b') (hb : b' = !b) (h : JL P ops Q n w0 D L rest (updO e o.dst undef)) :
   JL P ops Q n w0 D L (o :: rest) e := JL.guardOff (b := b') (by rw [hb, Bool.not_not]; exact hg) hj ht hv h
theorem JC.cT {c : Operand} {x y : Code} {b : Bool} (hc : rd n e c = .bool b) (hb : b = true) (h : JC P Q n w0 D L x e) : JC P Q n w0 D L (.cond c x y) e := JC.condT (hc.trans (cB hb)) h
theorem JC.cF {c : Operand} {x y : Code} {b : Bool} (hc : rd n e c = .bool b) (hb : b = false) (h : JC P Q n w0 D L y e) : JC P Q n w0 D L (.cond c x y) e := JC.condF (hc.trans (cB hb)) h
/-- An operation of a region of many orders that is taken first. -/
def YA (P : Program) (ops : Array Oper) (n : Nat) (w0 : World) (D : List Nat) (M : List Res) (z i : Nat) (e : Env) (o : Oper) (v : Value) : Prop :=
 (∀ C : World → Prop, YC P ops C o v (act n e)) ∨ (lateB ops z i = true ∧ YC P ops (Qw w0 D M) o v (act n e))
theorem YA.p {i : Nat} {o : Oper} {v : Value} (hg : o.guard = none) (hy : PO P n e o v) : YA P ops n w0 D M z i e o v := .inl fun _ => .inl ⟨by simp [Region.wanted, hg], fun w' _ => by rw [act_eval']; exact hy w'⟩
theorem YA.l {i : Nat} {o : Oper} {v : Value} (hg : o.guard = none) (hz : lateB ops z i = true) (hy : LO P n w0 D M e o v) : YA P ops n w0 D M z i e o v := .inr ⟨hz, .inl ⟨by simp [Region.wanted, hg], fun w' hw' => by rw [act_eval']; exact hy w' hw'⟩⟩
theorem YA.gp {i : Nat} {o : Oper} {v : Value} {j : Nat} {b b' : Bool} {t : Tmp} (hg : o.guard = some (j, b)) (hj : (ops[j]?).bind (·.dst) = some t) (ht : Nat.blt t n = true) (hv : e t = .bool b') (hb : b' = b) (hy : PO P n e o v) : YA P ops n w0 D M z i e o v := by
 have hlt : t < n := (Nat.blt_eq (x := t) (y := n)) ▸ ht
 have hyy : yielded ops (act n e).tmps j = some b := by simp [yielded, hj, act, hlt, hv, hb]
 exact .inl fun _ => .inl ⟨by simp [Region.wanted, hg, hyy], fun w' _ => by rw [act_eval']; exact hy w'⟩
theorem YA.gl {i : Nat} {o : Oper} {v : Value} {j : Nat} {b b' : Bool} {t : Tmp} (hg : o.guard = some (j, b)) (hj : (ops[j]?).bind (·.dst) = some t) (ht : Nat.blt t n = true) (hv : e t = .bool b') (hb : b' = b) (hz : lateB ops z i = true) (hy : LO P n w0 D M e o v) : YA P ops n w0 D M z i e o v := by
 have hlt : t < n := (Nat.blt_eq (x := t) (y := n)) ▸ ht
 have hyy : yielded ops (act n e).tmps j = some b := by simp [yielded, hj, act, hlt, hv, hb]
 exact .inr ⟨hz, .inl ⟨by simp [Region.wanted, hg, hyy], fun w' hw' => by rw [act_eval']; exact hy w' hw'⟩⟩
theorem YA.gf {i : Nat} {o : Oper} {j : Nat} {b b' : Bool} {t : Tmp} (hg : o.guard = some (j, b)) (hj : (ops[j]?).bind (·.dst) = some t) (ht : Nat.blt t n = true) (hv : e t = .bool b') (hb : b' = !b) : YA P ops n w0 D M z i e o undef := by
 have hlt : t < n := (Nat.blt_eq (x := t) (y := n)) ▸ ht
 have hyy : yielded ops (act n e).tmps j = some b' := by simp [yielded, hj, act, hlt, hv]
 exact .inl fun _ => .inr ⟨by subst hb; cases b <;> simp [Region.wanted, hg, hyy], rfl⟩
theorem YA.gu {i : Nat} {o : Oper} {j : Nat} {b : Bool} {t : Tmp} (hg : o.guard = some (j, b)) (hj : (ops[j]?).bind (·.dst) = some t) (ht : Nat.blt t n = true) (hv : e t = undef) : YA P ops n w0 D M z i e o undef := by
 have hlt : t < n := (Nat.blt_eq (x := t) (y := n)) ▸ ht
 have hyy : yielded ops (act n e).tmps j = none := by simp [yielded, hj, act, hlt, hv, undef]
 exact .inl fun _ => .inr ⟨by simp [Region.wanted, hg, hyy], rfl⟩
theorem YA.go {i : Nat} {o : Oper} {v : Value} (h : YA P ops n w0 D M z i e o v := by first
 | (apply YA.p; exact rfl; exact PO.go) | (apply YA.l; exact rfl; decide +kernel; exact LO.go) | (refine YA.gf rfl rfl rfl rfl ?_; exact bQ) | (apply YA.gp; exact rfl; exact rfl; exact rfl; exact rfl; exact bQ; exact PO.go)
 | exact YA.gu rfl rfl rfl rfl | (apply YA.gl; exact rfl; exact rfl; exact rfl; exact rfl; exact bQ; decide +kernel; exact LO.go) | fail) : YA P ops n w0 D M z i e o v := h
theorem kH (i : Nat) {o : Oper} {v : Value} (hr : (Region.ready .any ops listed).contains i = true) (hi : ops[i]? = some o) (hy : YA P ops n w0 D M z i e o v)
   (hf : Region.free .any ops listed i = true) (hs : Region.noSelect ops = true) (hQ : NP Q) (h : JA P ops Q n w0 D M z fuel (listed.setIfInBounds i true) L (updO e o.dst v)) : JA P ops Q n w0 D M z (fuel + 1) listed L e := fun w hw hq => by
 rcases hy with hy | ⟨hz, hy⟩
 · exact anyC.firstP hi hs hQ fuel listed (act n e) w (Region.free_spec hi hf) (by simpa using hr) (hy _) (by rw [act_put]; exact h w hw hq)
 · exact anyC.first hi hs hQ hz fuel listed (act n e) w (Region.free_spec hi hf) (by simpa using hr) hq hy (by rw [act_put]; exact h w hw hq)
theorem JA.at {p : Prop} (h : JA P ops Q n w0 D M z fuel listed L e → p) : JA P ops Q n w0 D M z fuel listed L e → p := h
theorem NP.go (h : NP Q := by (repeat (first | with_reducible refine NP.th ?_ | with_reducible refine NP.bl ?_ | with_reducible exact NP.body | with_reducible exact NP.cut))) : NP Q := h
structure Ho (p : Prop) : Prop where
 h : p
/-- One operation without a choice. -/
theorem oQ {p q : Prop} (k : p) (h : Ho p → q := by
 intro k_
 (first
   | (apply JL.pg; exact rfl; exact PO.go)
   | (apply JL.lg; exact rfl; exact LO.go)
   | (refine JL.gf rfl rfl rfl rfl ?_ ?_; exact bQ)
   | (apply JL.gn; exact rfl; exact rfl; exact rfl; exact rfl; exact bQ; first | exact LO.pure PO.go | exact LO.go | fail)
   | refine JL.guardOffU rfl rfl rfl rfl ?_
   | (apply kH 0; decide +kernel; exact rfl; exact YA.go; decide +kernel; kernel_rfl; exact NP.go)
   | (apply kH 1; decide +kernel; exact rfl; exact YA.go; decide +kernel; kernel_rfl; exact NP.go)
   | (apply kH 2; decide +kernel; exact rfl; exact YA.go; decide +kernel; kernel_rfl; exact NP.go)
   | (apply kH 3; decide +kernel; exact rfl; exact YA.go; decide +kernel; kernel_rfl; exact NP.go)
   | (apply kH 4; decide +kernel; exact rfl; exact YA.go; decide +kernel; kernel_rfl; exact NP.go)
   | (apply kH 5; decide +kernel; exact rfl; exact YA.go; decide +kernel; kernel_rfl; exact NP.go)
   | (apply kH 6; decide +kernel; exact rfl; exact YA.go; decide +kernel; kernel_rfl; exact NP.go)
   | (apply kH 7; decide +kernel; exact rfl; exact YA.go; decide +kernel; kernel_rfl; exact NP.go)
   | (apply kH 8; decide +kernel; exact rfl; exact YA.go; decide +kernel; kernel_rfl; exact NP.go)
   | (apply kH 9; decide +kernel; exact rfl; exact YA.go; decide +kernel; kernel_rfl; exact NP.go)
   | (apply kH 10; decide +kernel; exact rfl; exact YA.go; decide +kernel; kernel_rfl; exact NP.go)
   | (apply kH 11; decide +kernel; exact rfl; exact YA.go; decide +kernel; kernel_rfl; exact NP.go)
   | (apply kH 12; decide +kernel; exact rfl; exact YA.go; decide +kernel; kernel_rfl; exact NP.go)
   | (apply kH 13; decide +kernel; exact rfl; exact YA.go; decide +kernel; kernel_rfl; exact NP.go)
   | (apply kH 14; decide +kernel; exact rfl; exact YA.go; decide +kernel; kernel_rfl; exact NP.go)
   | (apply kH 15; decide +kernel; exact rfl; exact YA.go; decide +kernel; kernel_rfl; exact NP.go)
   | (apply kH 16; decide +kernel; exact rfl; exact YA.go; decide +kernel; kernel_rfl; exact NP.go)
   | (apply kH 17; decide +kernel; exact rfl; exact YA.go; decide +kernel; kernel_rfl; exact NP.go)
   | (apply kH 18; decide +kernel; exact rfl; exact YA.go; decide +kernel; kernel_rfl; exact NP.go)
   | (apply kH 19; decide +kernel; exact rfl; exact YA.go; decide +kernel; kernel_rfl; exact NP.go)
   | (apply kH 20; decide +kernel; exact rfl; exact YA.go; decide +kernel; kernel_rfl; exact NP.go)
   | (apply kH 21; decide +kernel; exact rfl; exact YA.go; decide +kernel; kernel_rfl; exact NP.go)
   | (apply kH 22; decide +kernel; exact rfl; exact YA.go; decide +kernel; kernel_rfl; exact NP.go)
   | (apply kH 23; decide +kernel; exact rfl; exact YA.go; decide +kernel; kernel_rfl; exact NP.go) | fail)
 exact k_.h) : q := h ⟨k⟩
/-- Operations without a choice, up to their region's end. -/
theorem gQ {p q : Prop} (k : p) (h : Ho p → q := by
 intro k_
 (repeat (refine oQ ?_))
 exact k_.h) : q := h ⟨k⟩
/-- Steps without a choice. -/
theorem go {p q : Prop} (k : p) (h : Ho p → q := by
 intro k_
 (repeat (first
   | refine jb ?_
   | refine jT ?_
   | refine jc ?_
   | refine jy ?_
   | (refine JC.cT rfl ?_ ?_; exact bQ)
   | (refine JC.cF rfl ?_ ?_; exact bQ)
   | refine JQ.thenRet ?_
   | refine JQ.blockN ?_
   | refine JC.skip ?_
   | refine jz ?_
   | refine JC.block ?_
   | refine JC.exit ?_
   | refine JQ.thenExit ?_
   | refine JQ.blockE ?_
   | refine JQ.blockO rfl ?_
   | refine JQ.blockRet ?_
   | (refine JA.done ?_ ?_; decide +kernel)
   | refine oQ ?_))
 exact k_.h) : q := h ⟨k⟩

theorem jM {x : Operand} {t : TypeId} {rest : List Oper} (cs : List Value) {v : Value} (h : ∀ b, JL P ops Q n w0 D (bk b t cs :: L) rest (updO e d (.pointer (some ⟨b, 0, none⟩)))) (hx : rd n e x = v := by rfl) (hc : v.cells.toList = cs := by rfl) :
   JL P ops Q n w0 D L (⟨d, .box t x, ty, pos, aft, none⟩ :: rest) e := jF rfl (JO.box hx hc) fun _ _ ⟨b, hv, hL⟩ => by subst hv; subst hL; exact h b
theorem jG {t : TypeId} {rest : List Oper} (cs : List Value) {z : Value} [hz : TyZ P t z] (h : ∀ b, JL P ops Q n w0 D (bk b t cs :: L) rest (updO e d (.pointer (some ⟨b, 0, none⟩)))) (hc : z.cells.toList = cs := by rfl) :
   JL P ops Q n w0 D L (⟨d, .alloc t, ty, pos, aft, none⟩ :: rest) e := jF rfl (JO.alloc hz.h hc) fun _ _ ⟨b, hv, hL⟩ => by subst hv; subst hL; exact h b
theorem jD (i : Nat) (cs' : List Value) {x y : Operand} {t ty' b o k : Nat} {cs vs : List Value} {v : Value} {rest : List Oper} [hs : TyS P t k] (h : JL P ops Q n w0 D (L.set i (bk b ty' cs')) rest e)
   (hL : L[i]? = some (bk b ty' cs) := by rfl) (hx : rd n e x = .pointer (some ⟨b, o, none⟩) := by rfl) (hy : rd n e y = v := by rfl) (hv : v.cells.toList = vs := by rfl)
   (hk : vs.length = k := by rfl) (h1 : vs.all (·.oneCell') = true := by rfl) (hfit : o + k ≤ cs.length := by exact lb rfl) (hc : cs.take o ++ vs ++ cs.drop (o + k) = cs' := by rfl) :
   JL P ops Q n w0 D L (⟨none, .store t x y, ty, pos, aft, none⟩ :: rest) e := jF rfl (JO.store i hL hx hy hv hs.h hk h1 hfit hc) fun _ _ hL' => by subst hL'; exact h
/-- A call: what it leaves is told by its contract. -/
theorem jA (is : List Nat) {f : FuncId} {args : Array Operand} {ats : Array TypeId} {vs : List Value} {A F : List Res} {Pre : World → Prop} {Post : Value → List Res → Prop} {rest : List Oper} (hf : Ct P f vs A Pre Post)
   (h : ∀ v A', Post v A' → JL P ops Q n w0 D (A' ++ F) rest (updO e d v)) (hpre : ∀ w, St w0 D L w → Pre w := by exact fun _ _ => trivial) (hp : pick is L = some (A, F) := by rfl) (hv : args.toList.map (rd n e) = vs := by rfl) (hc : callsB P f = true := by kernel_rfl) :
   JL P ops Q n w0 D L (⟨d, .call ⟨.value (.func f), args, ats⟩, ty, pos, aft, none⟩ :: rest) e := jF rfl (jO is (calls_run hc) hp hf hv hpre) fun v L' ⟨A', h1, h2⟩ => by subst h2; exact h v A' h1
/-- A call that hands back a value and no more. -/
theorem jN (is : List Nat) {f : FuncId} {args : Array Operand} {ats : Array TypeId} {vs : List Value} {A F B : List Res} {u : Value} {Pre : World → Prop} {rest : List Oper} (hf : Ct P f vs A Pre fun v A' => v = u ∧ A' = B)
   (h : JL P ops Q n w0 D (B ++ F) rest (updO e d u)) (hpre : ∀ w, St w0 D L w → Pre w := by exact fun _ _ => trivial) (hp : pick is L = some (A, F) := by rfl) (hv : args.toList.map (rd n e) = vs := by rfl) (hc : callsB P f = true := by kernel_rfl) :
   JL P ops Q n w0 D L (⟨d, .call ⟨.value (.func f), args, ats⟩, ty, pos, aft, none⟩ :: rest) e := jA is hf (fun v A' ⟨h1, h2⟩ => by subst h1; subst h2; exact h) hpre hp hv hc
theorem JC.pk (is : List Nat) {c : Code} (h : JC P Q n w0 D (pickA is L) c e) (hok : okP is L = true := by kernel_rfl) : JC P Q n w0 D L c e := fun w hw => by
 obtain ⟨F, hF⟩ := pickA_perm is L hok
 exact h w ((hw.perm hF.symm).sub (List.sublist_append_left _ _))
theorem JL.pk (is : List Nat) {l : List Oper} (h : JL P ops Q n w0 D (pickA is L) l e) (hok : okP is L = true := by kernel_rfl) : JL P ops Q n w0 D L l e := fun w hw => by
 obtain ⟨F, hF⟩ := pickA_perm is L hok
 exact h w ((hw.perm hF.symm).sub (List.sublist_append_left _ _))
theorem jB {i : Nat} (h : JX P ops Q n w0 D M z fuel listed L e i) (hr : Region.ready .any ops listed = [i] := by kernel_rfl) : JA P ops Q n w0 D M z (fuel + 1) listed L e := JA.one hr h
def SubL {α : Type} (M L : List α) : Prop := ∀ r ∈ M, r ∈ L
theorem all_nil {α : Type} {L : List α} : SubL [] L := fun _ h => by cases h
theorem all_cons {α : Type} {a : α} {M L : List α} {i : Nat} (h : L[i]? = some a) (t : SubL M L) : SubL (a :: M) L := fun r hr => by
 rcases List.mem_cons.1 hr with rfl | hr
 · exact List.mem_of_getElem? h
 · exact t r hr
theorem all_go {α : Type} {M L : List α} (h : SubL M L := by (repeat (first | exact all_nil | (apply all_cons; exact agQ)))) : ∀ r ∈ M, r ∈ L := h
theorem jH (is : List Nat) (z : Nat) {id : Nat} {l : List Oper} (h : JA P l.toArray Q n w0 D (pickA is L) z l.length (Array.replicate l.length false) L e) (hm : P.follows .mixedOrders = true := by exact mixed) (ho : okP is L = true := by kernel_rfl) : JC P Q n w0 D L (.region id l.toArray true) e :=
 JC.regionA (pickA is L) z hm (fun r hr => by
   obtain ⟨F, hF⟩ := pickA_perm is L ho
   exact hF.symm.subset (List.mem_append_left F hr)) h
section
variable {i : Nat} {f : FuncId} {args : Array Operand} {ats : Array TypeId} {vs : List Value} {A F B : List Res} {u : Value} {Pre : World → Prop} {Post : Value → List Res → Prop}
theorem jI (is : List Nat) (hf : Ct P f vs A Pre Post) (h : ∀ v A', Post v A' → JA P ops Q n w0 D M z fuel (listed.setIfInBounds i true) (A' ++ F) (updO e d v)) (hi : ops[i]? = some ⟨d, .call ⟨.value (.func f), args, ats⟩, ty, pos, aft, none⟩ := by rfl)
   (hpre : ∀ w, St w0 D L w → Pre w := by exact fun _ _ => trivial) (hp : pick is L = some (A, F) := by rfl) (hv : args.toList.map (rd n e) = vs := by rfl) (hm : ∀ r ∈ M, r ∈ F := by exact all_go) (hc : callsB P f = true := by kernel_rfl) : JX P ops Q n w0 D M z fuel listed L e i :=
 ja hi rfl (jO is (calls_run hc) hp hf hv hpre) fun v L' ⟨A', h1, h2⟩ => by subst h2; exact ⟨fun r hr => List.mem_append_right _ (hm r hr), h v A' h1⟩
theorem kE (is : List Nat) (hf : Ct P f vs A Pre Post) (h : ∀ v A', Post v A' → JA P ops Q n w0 D [] z fuel (listed.setIfInBounds i true) (A' ++ F) (updO e d v)) (hi : ops[i]? = some ⟨d, .call ⟨.value (.func f), args, ats⟩, ty, pos, aft, none⟩ := by rfl)
   (hpre : ∀ w, St w0 D L w → Pre w := by exact fun _ _ => trivial) (hp : pick is L = some (A, F) := by rfl) (hv : args.toList.map (rd n e) = vs := by rfl) (hiz : z ≤ i := by decide)
   (hl : ((List.range listed.size).all fun k => Nat.ble z k || listed.getD k true) = true := by kernel_rfl) (hc : callsB P f = true := by kernel_rfl) : JX P ops Q n w0 D M z fuel listed L e i :=
 JX.late hi rfl hiz hl (jO is (calls_run hc) hp hf hv hpre) fun v L' ⟨A', h1, h2⟩ => by subst h2; exact h v A' h1
theorem JX.ce (is : List Nat) (hf : Ct P f vs A Pre Post) (h : ∀ v A', Post v A' → JQ Q .normal n w0 D (A' ++ F) (updO e d v)) (hi : ops[i]? = some ⟨d, .call ⟨.value (.func f), args, ats⟩, ty, pos, aft, none⟩ := by rfl)
   (hpre : ∀ w, St w0 D L w → Pre w := by exact fun _ _ => trivial) (hp : pick is L = some (A, F) := by rfl) (hv : args.toList.map (rd n e) = vs := by rfl) (hiz : z ≤ i := by decide) (hr : Region.ready .any ops (listed.setIfInBounds i true) = [] := by kernel_rfl)
   (hc : callsB P f = true := by kernel_rfl) : JX P ops Q n w0 D M z fuel listed L e i :=
 JX.last hi rfl hiz hr (jO is (calls_run hc) hp hf hv hpre) fun v L' ⟨A', h1, h2⟩ => by subst h2; exact h v A' h1
theorem JX.al {t : TypeId} (cs : List Value) {z' : Value} (h : ∀ b, JA P ops Q n w0 D M z fuel (listed.setIfInBounds i true) (bk b t cs :: L) (updO e d (.pointer (some ⟨b, 0, none⟩)))) (hi : ops[i]? = some ⟨d, .alloc t, ty, pos, aft, none⟩ := by rfl)
   (hz : TyZ P t z' := by infer_instance) (hc : z'.cells.toList = cs := by rfl) (hm : ∀ r ∈ M, r ∈ L := by exact all_go) : JX P ops Q n w0 D M z fuel listed L e i := ja hi rfl (JO.alloc hz.h hc) fun _ _ ⟨b, hv, hL⟩ => by subst hv; subst hL; exact ⟨fun r hr => List.mem_cons_of_mem _ (hm r hr), h b⟩
variable {x y : Operand} {t ty' b o k : Nat} {cs : List Value} {v : Value}
theorem jp (j : Nat) (cs' : List Value) [hs : TyS P t k] (h : JA P ops Q n w0 D M z fuel (listed.setIfInBounds i true) (L.set j (bk b ty' cs')) e) (hi : ops[i]? = some ⟨none, .store t x y, ty, pos, aft, none⟩ := by rfl)
   (hL : L[j]? = some (bk b ty' cs) := by rfl) (hx : rd n e x = .pointer (some ⟨b, o, none⟩) := by rfl) (hy : rd n e y = v := by rfl) (hv : v.cells.toList = vs := by rfl)
   (hk : vs.length = k := by rfl) (h1 : vs.all (·.oneCell') = true := by rfl) (hfit : o + k ≤ cs.length := by exact lb rfl) (hc : cs.take o ++ vs ++ cs.drop (o + k) = cs' := by rfl) (hm : ∀ r ∈ M, r ∈ L.set j (bk b ty' cs') := by exact all_go) :
   JX P ops Q n w0 D M z fuel listed L e i := ja hi rfl (JO.store j hL hx hy hv hs.h hk h1 hfit hc) fun _ _ hL' => by subst hL'; exact ⟨hm, h⟩
theorem jf (j : Nat) (cs' : List Value) [hs : TyS P t k] (h : JA P ops Q n w0 D [] z fuel (listed.setIfInBounds i true) (L.set j (bk b ty' cs')) e) (hi : ops[i]? = some ⟨none, .store t x y, ty, pos, aft, none⟩ := by rfl)
   (hL : L[j]? = some (bk b ty' cs) := by rfl) (hx : rd n e x = .pointer (some ⟨b, o, none⟩) := by rfl) (hy : rd n e y = v := by rfl) (hv : v.cells.toList = vs := by rfl)
   (hk : vs.length = k := by rfl) (h1 : vs.all (·.oneCell') = true := by rfl) (hfit : o + k ≤ cs.length := by exact lb rfl) (hc : cs.take o ++ vs ++ cs.drop (o + k) = cs' := by rfl) (hiz : z ≤ i := by decide)
   (hl : ((List.range listed.size).all fun k => Nat.ble z k || listed.getD k true) = true := by kernel_rfl) : JX P ops Q n w0 D M z fuel listed L e i := JX.late hi rfl hiz hl (JO.store j hL hx hy hv hs.h hk h1 hfit hc) fun _ _ hL' => by subst hL'; exact h
theorem jS (j : Nat) (cs' : List Value) [hs : TyS P t k] (h : JQ Q .normal n w0 D (L.set j (bk b ty' cs')) e) (hi : ops[i]? = some ⟨none, .store t x y, ty, pos, aft, none⟩ := by rfl)
   (hL : L[j]? = some (bk b ty' cs) := by rfl) (hx : rd n e x = .pointer (some ⟨b, o, none⟩) := by rfl) (hy : rd n e y = v := by rfl) (hv : v.cells.toList = vs := by rfl)
   (hk : vs.length = k := by rfl) (h1 : vs.all (·.oneCell') = true := by rfl) (hfit : o + k ≤ cs.length := by exact lb rfl) (hc : cs.take o ++ vs ++ cs.drop (o + k) = cs' := by rfl) (hiz : z ≤ i := by decide)
   (hr : Region.ready .any ops (listed.setIfInBounds i true) = [] := by kernel_rfl) : JX P ops Q n w0 D M z fuel listed L e i := JX.last hi rfl hiz hr (JO.store j hL hx hy hv hs.h hk h1 hfit hc) fun _ _ hL' => by subst hL'; exact h
end
/-- A round's end; a way's end; the end of a body: what is kept is named by its places. -/
theorem jP (is : List Nat) {I : Nat → Env → List Res → Prop} {A : List Res} {k k' : Nat} (h : I k' e A) (hk : k' < k := by omega) (hp : pickA is L = A := by rfl) (ho : okP is L = true := by kernel_rfl) : JQ (Exit.then (Again n w0 D I k) Q) .normal n w0 D L e :=
 JQ.pk is (hp ▸ jV k' hk h) ho
theorem RV.t1 {t : Tmp} {v : Value} (h : rd n e (.tmp t) = v) : RV P n w0 D L e (.tmp t) v := jC h
theorem RV.c1 {a : Tmp} {t : TypeId} {v : Value} {ad : Addr} (hp : rd n e (.tmp a) = .pointer (some ad)) (h : LO P n w0 D L e ⟨none, .load t (.tmp a), 0, "", #[], none⟩ v) : RV P n w0 D L e (.cell a t) v := js h ⟨_, hp⟩
theorem RV.go {r : ResultVar} {v : Value} (h : RV P n w0 D L e r v := by first | ((with_reducible apply RV.t1); exact rfl) | ((with_reducible apply RV.c1); exact rfl; exact LO.go) | fail) : RV P n w0 D L e r v := h
theorem JQ.d0 (is : List Nat) {fn : Func} {Post : Value → List Res → Prop} {x : Exit} {A : List Res} (h : Post (.tuple #[]) A) (hr : fn.results = #[] := by rfl) (hx : x = .ret ∨ x = .normal := by first | exact .inl rfl | exact .inr rfl) (hp : pickA is L = A := by rfl) (ho : okP is L = true := by kernel_rfl) :
   JQ (bodyPost P fn (Done w0 D Post)) x n w0 D L e := JQ.pk is (Done.none hx hr (hp ▸ List.Sublist.refl _) h) ho
theorem jJ (is : List Nat) {fn : Func} {Post : Value → List Res → Prop} {x : Exit} {A : List Res} {r : ResultVar} {v : Value} (h : Post v A) (hr : fn.results = #[r] := by rfl) (h1 : RV P n w0 D L e r v := by exact RV.go) (hx : x = .ret ∨ x = .normal := by first | exact .inl rfl | exact .inr rfl)
   (hp : pickA is L = A := by rfl) (ho : okP is L = true := by kernel_rfl) : JQ (bodyPost P fn (Done w0 D Post)) x n w0 D L e := fun w hw => by
 obtain ⟨F, hF⟩ := pickA_perm is L ho
 have h1' : RV P n w0 D (A ++ F) e r v := fun w' hw' => h1 w' ⟨fun q hq => hw'.holds q (by rw [← hp]; exact hF.subset hq), hw'.keep⟩
 exact jE hx hr h1' (List.sublist_append_left A F) h w (hw.perm (by rw [← hp]; exact hF.symm))
theorem jQ (is : List Nat) {fn : Func} {Post : Value → List Res → Prop} {x : Exit} {A : List Res} {r s : ResultVar} {v u : Value} (h : Post (.tuple #[v, u]) A) (hr : fn.results = #[r, s] := by rfl) (h1 : RV P n w0 D L e r v := by exact RV.go) (h2 : RV P n w0 D L e s u := by exact RV.go)
   (hx : x = .ret ∨ x = .normal := by first | exact .inl rfl | exact .inr rfl) (hp : pickA is L = A := by rfl) (ho : okP is L = true := by kernel_rfl) : JQ (bodyPost P fn (Done w0 D Post)) x n w0 D L e := fun w hw => by
 obtain ⟨F, hF⟩ := pickA_perm is L ho
 have hq : ∀ {r v}, RV P n w0 D L e r v → RV P n w0 D (A ++ F) e r v := fun h w' hw' => h w' ⟨fun q hq => hw'.holds q (by rw [← hp]; exact hF.subset hq), hw'.keep⟩
 exact ji hx hr (hq h1) (hq h2) (List.sublist_append_left A F) h w (hw.perm (by rw [← hp]; exact hF.symm))
theorem jt (is : List Nat) {fn : Func} {Post : Value → List Res → Prop} {x : Exit} {A : List Res} {r s t : ResultVar} {v u y : Value} (h : Post (.tuple #[v, u, y]) A) (hr : fn.results = #[r, s, t] := by rfl) (h1 : RV P n w0 D L e r v := by exact RV.go) (h2 : RV P n w0 D L e s u := by exact RV.go)
   (h3 : RV P n w0 D L e t y := by exact RV.go) (hx : x = .ret ∨ x = .normal := by first | exact .inl rfl | exact .inr rfl) (hp : pickA is L = A := by rfl) (ho : okP is L = true := by kernel_rfl) : JQ (bodyPost P fn (Done w0 D Post)) x n w0 D L e := fun w hw => by
 obtain ⟨F, hF⟩ := pickA_perm is L ho
 have hq : ∀ {r v}, RV P n w0 D L e r v → RV P n w0 D (A ++ F) e r v := fun h w' hw' => h w' ⟨fun q hq => hw'.holds q (by rw [← hp]; exact hF.subset hq), hw'.keep⟩
 exact Done.three hx hr (hq h1) (hq h2) (hq h3) (List.sublist_append_left A F) h w (hw.perm (by rw [← hp]; exact hF.symm))
end
end Go.Proofs.YthlfmbbaomdciaaGreatDoor
