/-
  What each operation does, in the small logic: one lemma an operation. No program in sight.
-/
import Derived.Test.YtkmpmjficoohkaaGreatSl
set_option linter.unusedSimpArgs false
set_option linter.unusedVariables false
set_option linter.unnecessarySimpa false
namespace Go.Proofs.YtkmpmjficoohkaaGreat
open Go Go.RowKit

section
variable {P : Program} {ops : Array Oper} {Q : Exit → Act → World → Prop} {n : Nat} {w0 : World} {D : List Nat} {L : List Res} {e : Env}
variable {d : Option Tmp} {ty : TypeId} {pos : String} {aft : Array Edge} {gd : Option (Nat × Bool)}

theorem beq_dec {α : Type} [BEq α] [LawfulBEq α] [DecidableEq α] (a b : α) : (a == b) = decide (a = b) := by by_cases h : a = b <;> simp [h]

/- ---- operations that only reckon ---- -/
theorem PO.move {x : Operand} {v : Value} (hx : rd n e x = v) : PO P n e ⟨d, .move x, ty, pos, aft, gd⟩ v := fun w => by simp [execOp, hx]
theorem PO.assign {x : Operand} {v : Value} (hx : rd n e x = v) : PO P n e ⟨d, .assign x, ty, pos, aft, gd⟩ v := fun w => by simp [execOp, hx]
theorem PO.pickT {c x y : Operand} {v : Value} (hc : rd n e c = .bool true) (hx : rd n e x = v) : PO P n e ⟨d, .pick c x y, ty, pos, aft, gd⟩ v := fun w => by simp [execOp, hc, hx, asBool]
theorem PO.pickF {c x y : Operand} {v : Value} (hc : rd n e c = .bool false) (hy : rd n e y = v) : PO P n e ⟨d, .pick c x y, ty, pos, aft, gd⟩ v := fun w => by simp [execOp, hc, hy, asBool]
theorem PO.nilCheck {x : Operand} {a : Addr} (hx : rd n e x = .pointer (some a)) : PO P n e ⟨d, .nilCheck x, ty, pos, aft, gd⟩ (.pointer (some a)) := fun w => by simp [execOp, hx]
theorem PO.makeFunc {fn : Fn} {f c : Array Operand} {fv cv : List Value} (hf : f.toList.map (rd n e) = fv) (hc : c.toList.map (rd n e) = cv) :
    PO P n e ⟨d, .makeFunc fn f c, ty, pos, aft, gd⟩ (.func fn fv.toArray cv.toArray) := fun w => by
  subst hf; subst hc
  simp [execOp, Instr.makeFunc]
  constructor <;> (apply Array.ext'; simp)
theorem PO.extract {x : Operand} {vs : Array Value} {i : Nat} {v : Value} (hx : rd n e x = .tuple vs) (hi : vs[i]? = some v) : PO P n e ⟨d, .extract x i, ty, pos, aft, gd⟩ v := fun w => by
  simp [execOp, Instr.extract, hx, hi]

/-- The address of a field. -/
def FieldOff (P : Program) (s f off : Nat) : Prop := ∀ b o w, (Instr.fieldAt s (.pointer (some ⟨b, o, none⟩)) f).run P w = .ok (.pointer (some ⟨b, o + off, none⟩)) w
theorem FieldOff.mk {s f off ft k : Nat} {fs : Array Field} {fl : Field} (hu : P.underlying s = some (.struct fs)) (hf : fs[f]? = some fl) (hft : fl.type = ft) (ho : fl.offset = off)
    (hs : ∀ w, (sizeOf ft).run P w = .ok (k + 1) w) : FieldOff P s f off := fun b o w => by
  subst hft; subst ho
  have ha : ∀ m, (⟨b, o, none⟩ : Addr).add m = ⟨b, o + m, none⟩ := fun m => by unfold Addr.add; split <;> simp_all
  simp [Instr.fieldAt, run_underlying hu, hf, Instr.sureAddr, fieldPlace, hs, ha]
theorem PO.fieldAddr {x : Operand} {s f off b o : Nat} (hf : FieldOff P s f off) (hx : rd n e x = .pointer (some ⟨b, o, none⟩)) :
    PO P n e ⟨d, .fieldAddr s x f, ty, pos, aft, gd⟩ (.pointer (some ⟨b, o + off, none⟩)) := fun w => by simp [execOp, hx, hf b o w]

/-- The place of a cell behind a slice. -/
def elp (a : Option Addr) (o : Nat) : Value := match a with | some a => .pointer (some ⟨a.block, a.off + o, none⟩) | none => undef
theorem PO.fieldAddrE {x : Operand} {s f off o : Nat} {a : Option Addr} (hf : FieldOff P s f off) (ha : a.isSome = true) (hx : rd n e x = elp a o) :
    PO P n e ⟨d, .fieldAddr s x f, ty, pos, aft, gd⟩ (elp a (o + off)) := fun w => by
  cases a with
  | none => simp at ha
  | some a => simp [execOp, hx, elp, hf a.block (a.off + o) w, Nat.add_assoc]

/- integers -/
theorem wr {x c : Int} (h : x = c ∧ -9223372036854775808 ≤ x ∧ x ≤ 9223372036854775807) : IntKind.i64.wrap x = c := (IntWalk.i64_in x h.2).trans h.1
theorem getD_some {α : Type} {l : List α} {i : Nat} {d : α} (h : i < l.length) : l[i]? = some (l.getD i d) := by simp [h]
theorem PO.build {t : TypeId} {parts : Array (Nat × Operand)} {ps : List (Nat × Value)} {cs : List Value} (hp : parts.toList.map (fun x => (x.1, rd n e x.2)) = ps) (hb : P.built t ps = some cs.toArray) :
    PO P n e ⟨d, .build t parts, ty, pos, aft, gd⟩ (.agg cs.toArray) := fun w => by
  have hps : (parts.map fun x => (x.1, rd n e x.2)).toList = ps := by rw [← hp]; simp
  have := run_build (P := P) w t (parts.map fun x => (x.1, rd n e x.2)) cs.toArray (by rw [hps]; exact hb)
  simp [execOp, this]
theorem i64_in {x : Int} (h : -9223372036854775808 ≤ x ∧ x ≤ 9223372036854775807) : IntKind.i64.wrap x = x := IntWalk.i64_in x h
theorem PO.addW {x y : Operand} {k : IntKind} {a b : Int} {t u : TypeId} (hx : rd n e x = .int k a) (hy : rd n e y = .int k b) : PO P n e ⟨d, .binOp .add t x y u, ty, pos, aft, gd⟩ (.int k (k.wrap (a + b))) := fun w => by
  simp [execOp, hx, hy, eqGuard, binOp, Op.intArith]
theorem PO.subW {x y : Operand} {k : IntKind} {a b : Int} {t u : TypeId} (hx : rd n e x = .int k a) (hy : rd n e y = .int k b) : PO P n e ⟨d, .binOp .sub t x y u, ty, pos, aft, gd⟩ (.int k (k.wrap (a - b))) := fun w => by
  simp [execOp, hx, hy, eqGuard, binOp, Op.intArith]
theorem PO.mulW {x y : Operand} {k : IntKind} {a b : Int} {t u : TypeId} (hx : rd n e x = .int k a) (hy : rd n e y = .int k b) : PO P n e ⟨d, .binOp .mul t x y u, ty, pos, aft, gd⟩ (.int k (k.wrap (a * b))) := fun w => by
  simp [execOp, hx, hy, eqGuard, binOp, Op.intArith]
theorem PO.add {x y : Operand} {k : IntKind} {a b c : Int} {t u : TypeId} (hx : rd n e x = .int k a) (hy : rd n e y = .int k b) (hc : k.wrap (a + b) = c) : PO P n e ⟨d, .binOp .add t x y u, ty, pos, aft, gd⟩ (.int k c) := hc ▸ PO.addW hx hy
theorem PO.sub {x y : Operand} {k : IntKind} {a b c : Int} {t u : TypeId} (hx : rd n e x = .int k a) (hy : rd n e y = .int k b) (hc : k.wrap (a - b) = c) : PO P n e ⟨d, .binOp .sub t x y u, ty, pos, aft, gd⟩ (.int k c) := hc ▸ PO.subW hx hy
theorem PO.mul {x y : Operand} {k : IntKind} {a b c : Int} {t u : TypeId} (hx : rd n e x = .int k a) (hy : rd n e y = .int k b) (hc : k.wrap (a * b) = c) : PO P n e ⟨d, .binOp .mul t x y u, ty, pos, aft, gd⟩ (.int k c) := hc ▸ PO.mulW hx hy
theorem PO.quo {x y : Operand} {k : IntKind} {a b c : Int} {t u : TypeId} (hx : rd n e x = .int k a) (hy : rd n e y = .int k b) (hb : b ≠ 0) (hc : k.wrap (a.tdiv b) = c) : PO P n e ⟨d, .binOp .quo t x y u, ty, pos, aft, gd⟩ (.int k c) := fun w => by
  simp [execOp, hx, hy, eqGuard, binOp, Op.intDiv, hb, hc]
theorem PO.rem {x y : Operand} {k : IntKind} {a b c : Int} {t u : TypeId} (hx : rd n e x = .int k a) (hy : rd n e y = .int k b) (hb : b ≠ 0) (hc : a.tmod b = c) : PO P n e ⟨d, .binOp .rem t x y u, ty, pos, aft, gd⟩ (.int k c) := fun w => by
  simp [execOp, hx, hy, eqGuard, binOp, Op.intDiv, hb, hc]
theorem PO.bits {op : BinOp} {x y : Operand} {k : IntKind} {a b : Int} {t u : TypeId} (hop : op = .and ∨ op = .or ∨ op = .xor) (hx : rd n e x = .int k a) (hy : rd n e y = .int k b) :
    PO P n e ⟨d, .binOp op t x y u, ty, pos, aft, gd⟩ (.int k (Go.bits op k a b)) := fun w => by
  rcases hop with rfl | rfl | rfl <;> simp [execOp, hx, hy, eqGuard, binOp, intBits_and, intBits_or, intBits_xor]
theorem PO.shr {x y : Operand} {k yk : IntKind} {a b : Int} {t u : TypeId} (hx : rd n e x = .int k a) (hy : rd n e y = .int yk b) (h0 : 0 ≤ b) (h1 : b ≤ k.bits) :
    PO P n e ⟨d, .binOp .shr t x y u, ty, pos, aft, gd⟩ (.int k (a / 2 ^ b.toNat)) := fun w => by
  simp [execOp, hx, hy, eqGuard, binOp_shr, shift_shr k yk a b h0 h1]
theorem PO.shl {x y : Operand} {k yk : IntKind} {a b : Int} {t u : TypeId} (hx : rd n e x = .int k a) (hy : rd n e y = .int yk b) (h0 : 0 ≤ b) (h1 : b ≤ k.bits) :
    PO P n e ⟨d, .binOp .shl t x y u, ty, pos, aft, gd⟩ (.int k (k.wrap (a * 2 ^ b.toNat))) := fun w => by
  simp [execOp, hx, hy, eqGuard, binOp_shl, shift_shl k yk a b h0 h1]
theorem PO.lss {x y : Operand} {k : IntKind} {a b : Int} {t u : TypeId} (hx : rd n e x = .int k a) (hy : rd n e y = .int k b) : PO P n e ⟨d, .binOp .lss t x y u, ty, pos, aft, gd⟩ (.bool (decide (a < b))) := fun w => by
  simp [execOp, hx, hy, eqGuard, binOp, Op.intCmp]
theorem PO.leq {x y : Operand} {k : IntKind} {a b : Int} {t u : TypeId} (hx : rd n e x = .int k a) (hy : rd n e y = .int k b) : PO P n e ⟨d, .binOp .leq t x y u, ty, pos, aft, gd⟩ (.bool (decide (a ≤ b))) := fun w => by
  simp [execOp, hx, hy, eqGuard, binOp, Op.intCmp]
theorem PO.gtr {x y : Operand} {k : IntKind} {a b : Int} {t u : TypeId} (hx : rd n e x = .int k a) (hy : rd n e y = .int k b) : PO P n e ⟨d, .binOp .gtr t x y u, ty, pos, aft, gd⟩ (.bool (decide (b < a))) := fun w => by
  simp [execOp, hx, hy, eqGuard, binOp, Op.intCmp]
theorem PO.geq {x y : Operand} {k : IntKind} {a b : Int} {t u : TypeId} (hx : rd n e x = .int k a) (hy : rd n e y = .int k b) : PO P n e ⟨d, .binOp .geq t x y u, ty, pos, aft, gd⟩ (.bool (decide (b ≤ a))) := fun w => by
  simp [execOp, hx, hy, eqGuard, binOp, Op.intCmp]
theorem PO.eqlI {x y : Operand} {k : IntKind} {a b : Int} {t u : TypeId} (hx : rd n e x = .int k a) (hy : rd n e y = .int k b) : PO P n e ⟨d, .binOp .eql t x y u, ty, pos, aft, gd⟩ (.bool (decide (a = b))) := fun w => by
  simp [execOp, hx, hy, eqGuard, binOp, Op.intCmp, beq_dec]
theorem PO.neqI {x y : Operand} {k : IntKind} {a b : Int} {t u : TypeId} (hx : rd n e x = .int k a) (hy : rd n e y = .int k b) : PO P n e ⟨d, .binOp .neq t x y u, ty, pos, aft, gd⟩ (.bool (!decide (a = b))) := fun w => by
  simp [execOp, hx, hy, eqGuard, binOp, Op.intCmp, bne, beq_dec]
theorem PO.neg {x : Operand} {k : IntKind} {a c : Int} {t : TypeId} (hx : rd n e x = .int k a) (hc : k.wrap (0 - a) = c) : PO P n e ⟨d, .unOp .neg t x, ty, pos, aft, gd⟩ (.int k c) := fun w => by
  simp only [execOp, hx, unary_neg, Op.intArith, hc]; rfl
theorem PO.not {x : Operand} {b : Bool} {t : TypeId} (hx : rd n e x = .bool b) : PO P n e ⟨d, .unOp .not t x, ty, pos, aft, gd⟩ (.bool (!b)) := fun w => by simp [execOp, hx, Op.unary]

/- strings -/
theorem str_toList (l : Str) : (ByteArray.mk l.toArray).toList = l := ByteArray.toList_mk l
theorem mk_append (a b : Str) : (ByteArray.mk a.toArray) ++ (ByteArray.mk b.toArray) = ByteArray.mk (a ++ b).toArray := by
  apply ByteArray.ext
  simp
theorem PO.addS {x y : Operand} {a b : Str} {t u : TypeId} (hx : rd n e x = str a) (hy : rd n e y = str b) (hl : a.length + b.length ≤ 9223372036854775807) : PO P n e ⟨d, .binOp .add t x y u, ty, pos, aft, gd⟩ (str (a ++ b)) := fun w => by
  simp only [str] at hx hy
  have hl' : ((ByteArray.mk a.toArray).size : Int) + ((ByteArray.mk b.toArray).size : Int) ≤ 9223372036854775807 := by
    have h1 : (ByteArray.mk a.toArray).size = a.length := by simp [ByteArray.size]
    have h2 : (ByteArray.mk b.toArray).size = b.length := by simp [ByteArray.size]
    rw [h1, h2]; omega
  simp [execOp, hx, hy, eqGuard, binOp, Op.stringOp, str, mk_append, hl']
theorem PO.eqlS {x y : Operand} {a b : Str} {t u : TypeId} (hx : rd n e x = str a) (hy : rd n e y = str b) : PO P n e ⟨d, .binOp .eql t x y u, ty, pos, aft, gd⟩ (.bool (decide (a = b))) := fun w => by
  simp only [str] at hx hy
  simp [execOp, hx, hy, eqGuard, binOp_string_eql, str_toList, beq_dec]
theorem PO.neqS {x y : Operand} {a b : Str} {t u : TypeId} (hx : rd n e x = str a) (hy : rd n e y = str b) : PO P n e ⟨d, .binOp .neq t x y u, ty, pos, aft, gd⟩ (.bool (!decide (a = b))) := fun w => by
  simp only [str] at hx hy
  simp [execOp, hx, hy, eqGuard, binOp_string_neq, str_toList, beq_dec]
theorem PO.lssS {x y : Operand} {a b : Str} {t u : TypeId} (hx : rd n e x = str a) (hy : rd n e y = str b) : PO P n e ⟨d, .binOp .lss t x y u, ty, pos, aft, gd⟩ (.bool (Op.bytesLess a b)) := fun w => by
  simp only [str] at hx hy
  simp [execOp, hx, hy, eqGuard, binOp_string_lss, str_toList]
theorem PO.gtrS {x y : Operand} {a b : Str} {t u : TypeId} (hx : rd n e x = str a) (hy : rd n e y = str b) : PO P n e ⟨d, .binOp .gtr t x y u, ty, pos, aft, gd⟩ (.bool (!Op.bytesLess a b && !decide (a = b))) := fun w => by
  simp only [str] at hx hy
  simp [execOp, hx, hy, eqGuard, binOp, Op.stringOp, str_toList, beq_dec]
theorem PO.geqS {x y : Operand} {a b : Str} {t u : TypeId} (hx : rd n e x = str a) (hy : rd n e y = str b) : PO P n e ⟨d, .binOp .geq t x y u, ty, pos, aft, gd⟩ (.bool (!Op.bytesLess a b)) := fun w => by
  simp only [str] at hx hy
  simp [execOp, hx, hy, eqGuard, binOp, Op.stringOp, str_toList]
theorem size_mk (l : Str) : (ByteArray.mk l.toArray).size = l.length := by simp [ByteArray.size]
theorem PO.lenS {x : Operand} {a : Str} {t : TypeId} (ht : P.underlying t = some .string) (hx : rd n e x = str a) :
    PO P n e ⟨d, .call ⟨.builtin .len, #[x], #[t]⟩, ty, pos, aft, gd⟩ (.int .i64 a.length) := fun w => by
  simp only [str] at hx
  simp [execOp, resolve, invoke, builtin, hx, run_len_string _ _ _ _ ht, size_mk, goInt]
theorem PO.indexS {x y : Operand} {a : Str} {k : IntKind} {i : Nat} {c : UInt8} {t : TypeId} (ht : P.underlying t = some .string) (hx : rd n e x = str a) (hy : rd n e y = .int k i) (hi : a[i]? = some c) :
    PO P n e ⟨d, .index t x y, ty, pos, aft, gd⟩ (.int .u8 c.toNat) := fun w => by
  simp only [str] at hx
  obtain ⟨hlt, hc⟩ := List.getElem?_eq_some_iff.1 hi
  have hlt' : i < (ByteArray.mk a.toArray).size := by rw [size_mk]; exact hlt
  have hb : (ByteArray.mk a.toArray)[i]? = some c := by
    rw [ByteArray.getElem?_lt' _ _ hlt']
    exact congrArg some hc
  simp [execOp, Instr.index, hx, hy, asIntOf, run_underlying ht, hb]
theorem PO.sliceS {x lo hi : Operand} {a : Str} {k k' : IntKind} {i j : Nat} {t : TypeId} (ht : P.underlying t = some .string) (hx : rd n e x = str a) (hlo : rd n e lo = .int k i) (hhi : rd n e hi = .int k' j) (h1 : i ≤ j) (h2 : j ≤ a.length) :
    PO P n e ⟨d, .slice t x (some lo) (some hi) none, ty, pos, aft, gd⟩ (str ((a.drop i).take (j - i))) := fun w => by
  simp only [str] at hx
  have h2' : (j : Int) ≤ ((ByteArray.mk a.toArray).size : Int) := by rw [size_mk]; omega
  have h2'' : j ≤ (ByteArray.mk a.toArray).size := by rw [size_mk]; exact h2
  simp [execOp, run_sliceAt_string _ _ _ _ _ _ ht, Instr.slice, hx, hlo, hhi, run_underlying ht, Instr.sliceBounds, Instr.sliceBound, asIntOf, h2'', h1, str, ByteArray.extract_mk]
theorem PO.sliceSl {x lo : Operand} {a : Str} {k : IntKind} {i : Nat} {t : TypeId} (ht : P.underlying t = some .string) (hx : rd n e x = str a) (hlo : rd n e lo = .int k i) (h1 : i ≤ a.length) :
    PO P n e ⟨d, .slice t x (some lo) none none, ty, pos, aft, gd⟩ (str (a.drop i)) := fun w => by
  simp only [str] at hx
  have h1' : i ≤ (ByteArray.mk a.toArray).size := by rw [size_mk]; exact h1
  have : (a.drop i).take (a.length - i) = a.drop i := List.take_of_length_le (by simp)
  simp [execOp, run_sliceAt_string _ _ _ _ _ _ ht, Instr.slice, hx, hlo, run_underlying ht, Instr.sliceBounds, Instr.sliceBound, asIntOf, h1', str, ByteArray.extract_mk, size_mk, this]
  intro h; omega
theorem PO.sliceSh {x hi : Operand} {a : Str} {k : IntKind} {j : Nat} {t : TypeId} (ht : P.underlying t = some .string) (hx : rd n e x = str a) (hhi : rd n e hi = .int k j) (h2 : j ≤ a.length) :
    PO P n e ⟨d, .slice t x none (some hi) none, ty, pos, aft, gd⟩ (str (a.take j)) := fun w => by
  simp only [str] at hx
  have h2' : j ≤ (ByteArray.mk a.toArray).size := by rw [size_mk]; exact h2
  simp [execOp, run_sliceAt_string _ _ _ _ _ _ ht, Instr.slice, hx, hhi, run_underlying ht, Instr.sliceBounds, Instr.sliceBound, asIntOf, h2', str, ByteArray.extract_mk]
theorem PO.convI {x : Operand} {k k' : IntKind} {a c : Int} {s t : TypeId} {ds : TypeDesc} (hs : P.underlying s = some ds) (ht : P.underlying t = some (.int k')) (hx : rd n e x = .int k a) (hc : k'.wrap a = c) :
    PO P n e ⟨d, .convert s t x, ty, pos, aft, gd⟩ (.int k' c) := fun w => by
  simp [execOp, convert, run_underlying hs, run_underlying ht, hx, Conv.intToInt, hc]

/- slices: what can be told of their outer form -/
theorem PO.lenV {x : Operand} {a : Option Addr} {m c : Nat} {t el : TypeId} (ht : P.underlying t = some (.slice el)) (hx : rd n e x = .slice a m c) :
    PO P n e ⟨d, .call ⟨.builtin .len, #[x], #[t]⟩, ty, pos, aft, gd⟩ (.int .i64 m) := fun w => by
  simp [execOp, resolve, invoke, builtin, hx, Builtin.len_, run_underlying ht, goInt]
theorem PO.capV {x : Operand} {a : Option Addr} {m c : Nat} {t el : TypeId} (ht : P.underlying t = some (.slice el)) (hx : rd n e x = .slice a m c) :
    PO P n e ⟨d, .call ⟨.builtin .cap, #[x], #[t]⟩, ty, pos, aft, gd⟩ (.int .i64 c) := fun w => by
  simp [execOp, resolve, invoke, builtin, hx, Builtin.cap_, run_underlying ht, goInt]
theorem PO.indexAddrV {x y : Operand} {a : Option Addr} {m c : Nat} {k : IntKind} {i s : Nat} {t el : TypeId} (ht : P.underlying t = some (.slice el)) (hs : ∀ w, (sizeOf el).run P w = .ok s w) (ha : a.isSome = true) (hsp : a.bind (·.spot) = none)
    (hx : rd n e x = .slice a m c) (hy : rd n e y = .int k i) (hi : i < m) : PO P n e ⟨d, .indexAddr t x y, ty, pos, aft, gd⟩ (elp a (i * s)) := fun w => by
  cases a with
  | none => simp at ha
  | some a =>
    obtain ⟨b, o, sp⟩ := a
    simp only [Option.bind_some] at hsp
    subst hsp
    have had : ∀ q, (⟨b, o, none⟩ : Addr).add q = ⟨b, o + q, none⟩ := fun q => by unfold Addr.add; split <;> simp_all
    simp [execOp, Instr.indexAt, hx, hy, asIntOf, run_underlying ht, hs, elp, had, hi]

end
end Go.Proofs.YtkmpmjficoohkaaGreat
