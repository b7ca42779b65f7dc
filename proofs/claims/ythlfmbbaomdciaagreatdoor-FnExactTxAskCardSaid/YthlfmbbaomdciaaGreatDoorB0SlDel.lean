/-
Texts of the walk, joined: what each one proves stands at its theorems.
-/
import Derived.Test.YthlfmbbaomdciaaGreatDoorB0SlGo
import Derived.Lib.AppendZerosOnto
import Derived.Lib.Overlaps
import Derived.Laws.Cover3
namespace Go.Proofs.YthlfmbbaomdciaaGreatDoor
open Go Go.RowKit
theorem mixed : Tryz.prog.follows .mixedOrders = true := by kernel_rfl
theorem fo32_0 : FieldOff Tryz.prog 32 0 0 := FieldOff.mk Tryz.underlying32 rfl rfl rfl Tryz.sizeOf30
instance : TyF Tryz.prog 32 0 0 := ⟨fo32_0⟩
theorem fo32_1 : FieldOff Tryz.prog 32 1 1 := FieldOff.mk Tryz.underlying32 rfl rfl rfl Tryz.sizeOf30
instance : TyF Tryz.prog 32 1 1 := ⟨fo32_1⟩
theorem fo35_0 : FieldOff Tryz.prog 35 0 0 := FieldOff.mk Tryz.underlying35 rfl rfl rfl Tryz.sizeOf3
instance : TyF Tryz.prog 35 0 0 := ⟨fo35_0⟩
theorem fo35_1 : FieldOff Tryz.prog 35 1 1 := FieldOff.mk Tryz.underlying35 rfl rfl rfl Tryz.sizeOf3
instance : TyF Tryz.prog 35 1 1 := ⟨fo35_1⟩
theorem fo35_2 : FieldOff Tryz.prog 35 2 2 := FieldOff.mk Tryz.underlying35 rfl rfl rfl Tryz.sizeOf3
instance : TyF Tryz.prog 35 2 2 := ⟨fo35_2⟩
theorem fo35_3 : FieldOff Tryz.prog 35 3 3 := FieldOff.mk Tryz.underlying35 rfl rfl rfl Tryz.sizeOf3
instance : TyF Tryz.prog 35 3 3 := ⟨fo35_3⟩
theorem fo35_4 : FieldOff Tryz.prog 35 4 4 := FieldOff.mk Tryz.underlying35 rfl rfl rfl Tryz.sizeOf28
instance : TyF Tryz.prog 35 4 4 := ⟨fo35_4⟩
theorem fo35_5 : FieldOff Tryz.prog 35 5 5 := FieldOff.mk Tryz.underlying35 rfl rfl rfl Tryz.sizeOf29
instance : TyF Tryz.prog 35 5 5 := ⟨fo35_5⟩
theorem fo35_6 : FieldOff Tryz.prog 35 6 6 := FieldOff.mk Tryz.underlying35 rfl rfl rfl Tryz.sizeOf32
instance : TyF Tryz.prog 35 6 6 := ⟨fo35_6⟩
theorem fo35_7 : FieldOff Tryz.prog 35 7 8 := FieldOff.mk Tryz.underlying35 rfl rfl rfl Tryz.sizeOf33
instance : TyF Tryz.prog 35 7 8 := ⟨fo35_7⟩
theorem fo35_8 : FieldOff Tryz.prog 35 8 9 := FieldOff.mk Tryz.underlying35 rfl rfl rfl Tryz.sizeOf3
instance : TyF Tryz.prog 35 8 9 := ⟨fo35_8⟩
theorem fo39_0 : FieldOff Tryz.prog 39 0 0 := FieldOff.mk Tryz.underlying39 rfl rfl rfl Tryz.sizeOf3
instance : TyF Tryz.prog 39 0 0 := ⟨fo39_0⟩
theorem fo39_1 : FieldOff Tryz.prog 39 1 1 := FieldOff.mk Tryz.underlying39 rfl rfl rfl Tryz.sizeOf3
instance : TyF Tryz.prog 39 1 1 := ⟨fo39_1⟩
theorem fo39_2 : FieldOff Tryz.prog 39 2 2 := FieldOff.mk Tryz.underlying39 rfl rfl rfl Tryz.sizeOf9
instance : TyF Tryz.prog 39 2 2 := ⟨fo39_2⟩
theorem fo43_0 : FieldOff Tryz.prog 43 0 0 := FieldOff.mk Tryz.underlying43 rfl rfl rfl Tryz.sizeOf3
instance : TyF Tryz.prog 43 0 0 := ⟨fo43_0⟩
theorem fo43_1 : FieldOff Tryz.prog 43 1 1 := FieldOff.mk Tryz.underlying43 rfl rfl rfl Tryz.sizeOf9
instance : TyF Tryz.prog 43 1 1 := ⟨fo43_1⟩
theorem fo43_2 : FieldOff Tryz.prog 43 2 2 := FieldOff.mk Tryz.underlying43 rfl rfl rfl Tryz.sizeOf9
instance : TyF Tryz.prog 43 2 2 := ⟨fo43_2⟩
theorem fo43_3 : FieldOff Tryz.prog 43 3 3 := FieldOff.mk Tryz.underlying43 rfl rfl rfl Tryz.sizeOf3
instance : TyF Tryz.prog 43 3 3 := ⟨fo43_3⟩
theorem fo43_4 : FieldOff Tryz.prog 43 4 4 := FieldOff.mk Tryz.underlying43 rfl rfl rfl Tryz.sizeOf3
instance : TyF Tryz.prog 43 4 4 := ⟨fo43_4⟩
theorem fo43_5 : FieldOff Tryz.prog 43 5 5 := FieldOff.mk Tryz.underlying43 rfl rfl rfl Tryz.sizeOf9
instance : TyF Tryz.prog 43 5 5 := ⟨fo43_5⟩
theorem fo45_0 : FieldOff Tryz.prog 45 0 0 := FieldOff.mk Tryz.underlying45 rfl rfl rfl Tryz.sizeOf3
instance : TyF Tryz.prog 45 0 0 := ⟨fo45_0⟩
theorem fo45_1 : FieldOff Tryz.prog 45 1 1 := FieldOff.mk Tryz.underlying45 rfl rfl rfl Tryz.sizeOf43
instance : TyF Tryz.prog 45 1 1 := ⟨fo45_1⟩
theorem fo60_0 : FieldOff Tryz.prog 60 0 0 := FieldOff.mk Tryz.underlying60 rfl rfl rfl Tryz.sizeOf24
instance : TyF Tryz.prog 60 0 0 := ⟨fo60_0⟩
theorem fo60_1 : FieldOff Tryz.prog 60 1 1 := FieldOff.mk Tryz.underlying60 rfl rfl rfl Tryz.sizeOf32
instance : TyF Tryz.prog 60 1 1 := ⟨fo60_1⟩
theorem fo112_0 : FieldOff Tryz.prog 112 0 0 := FieldOff.mk Tryz.underlying112 rfl rfl rfl Tryz.sizeOf30
instance : TyF Tryz.prog 112 0 0 := ⟨fo112_0⟩
theorem fo112_1 : FieldOff Tryz.prog 112 1 1 := FieldOff.mk Tryz.underlying112 rfl rfl rfl Tryz.sizeOf30
instance : TyF Tryz.prog 112 1 1 := ⟨fo112_1⟩
theorem fo114_0 : FieldOff Tryz.prog 114 0 0 := FieldOff.mk Tryz.underlying114 rfl rfl rfl Tryz.sizeOf3
instance : TyF Tryz.prog 114 0 0 := ⟨fo114_0⟩
theorem fo114_1 : FieldOff Tryz.prog 114 1 1 := FieldOff.mk Tryz.underlying114 rfl rfl rfl Tryz.sizeOf3
instance : TyF Tryz.prog 114 1 1 := ⟨fo114_1⟩
theorem fo114_2 : FieldOff Tryz.prog 114 2 2 := FieldOff.mk Tryz.underlying114 rfl rfl rfl Tryz.sizeOf3
instance : TyF Tryz.prog 114 2 2 := ⟨fo114_2⟩
theorem fo114_3 : FieldOff Tryz.prog 114 3 3 := FieldOff.mk Tryz.underlying114 rfl rfl rfl Tryz.sizeOf3
instance : TyF Tryz.prog 114 3 3 := ⟨fo114_3⟩
theorem fo114_4 : FieldOff Tryz.prog 114 4 4 := FieldOff.mk Tryz.underlying114 rfl rfl rfl Tryz.sizeOf110
instance : TyF Tryz.prog 114 4 4 := ⟨fo114_4⟩
theorem fo114_5 : FieldOff Tryz.prog 114 5 5 := FieldOff.mk Tryz.underlying114 rfl rfl rfl Tryz.sizeOf111
instance : TyF Tryz.prog 114 5 5 := ⟨fo114_5⟩
theorem fo114_6 : FieldOff Tryz.prog 114 6 6 := FieldOff.mk Tryz.underlying114 rfl rfl rfl Tryz.sizeOf112
instance : TyF Tryz.prog 114 6 6 := ⟨fo114_6⟩
theorem fo114_7 : FieldOff Tryz.prog 114 7 8 := FieldOff.mk Tryz.underlying114 rfl rfl rfl Tryz.sizeOf33
instance : TyF Tryz.prog 114 7 8 := ⟨fo114_7⟩
theorem fo114_8 : FieldOff Tryz.prog 114 8 9 := FieldOff.mk Tryz.underlying114 rfl rfl rfl Tryz.sizeOf3
instance : TyF Tryz.prog 114 8 9 := ⟨fo114_8⟩
theorem fo115_0 : FieldOff Tryz.prog 115 0 0 := FieldOff.mk Tryz.underlying115 rfl rfl rfl Tryz.sizeOf3
instance : TyF Tryz.prog 115 0 0 := ⟨fo115_0⟩
theorem fo115_1 : FieldOff Tryz.prog 115 1 1 := FieldOff.mk Tryz.underlying115 rfl rfl rfl Tryz.sizeOf9
instance : TyF Tryz.prog 115 1 1 := ⟨fo115_1⟩
theorem fo115_2 : FieldOff Tryz.prog 115 2 2 := FieldOff.mk Tryz.underlying115 rfl rfl rfl Tryz.sizeOf9
instance : TyF Tryz.prog 115 2 2 := ⟨fo115_2⟩
theorem fo115_3 : FieldOff Tryz.prog 115 3 3 := FieldOff.mk Tryz.underlying115 rfl rfl rfl Tryz.sizeOf3
instance : TyF Tryz.prog 115 3 3 := ⟨fo115_3⟩
theorem fo115_4 : FieldOff Tryz.prog 115 4 4 := FieldOff.mk Tryz.underlying115 rfl rfl rfl Tryz.sizeOf3
instance : TyF Tryz.prog 115 4 4 := ⟨fo115_4⟩
theorem fo115_5 : FieldOff Tryz.prog 115 5 5 := FieldOff.mk Tryz.underlying115 rfl rfl rfl Tryz.sizeOf9
instance : TyF Tryz.prog 115 5 5 := ⟨fo115_5⟩
theorem fo130_0 : FieldOff Tryz.prog 130 0 0 := FieldOff.mk Tryz.underlying130 rfl rfl rfl Tryz.sizeOf9
instance : TyF Tryz.prog 130 0 0 := ⟨fo130_0⟩
theorem fo130_1 : FieldOff Tryz.prog 130 1 1 := FieldOff.mk Tryz.underlying130 rfl rfl rfl Tryz.sizeOf9
instance : TyF Tryz.prog 130 1 1 := ⟨fo130_1⟩
theorem fo180_0 : FieldOff Tryz.prog 180 0 0 := FieldOff.mk Tryz.underlying180 rfl rfl rfl Tryz.sizeOf9
instance : TyF Tryz.prog 180 0 0 := ⟨fo180_0⟩
theorem fo180_1 : FieldOff Tryz.prog 180 1 1 := FieldOff.mk Tryz.underlying180 rfl rfl rfl Tryz.sizeOf9
instance : TyF Tryz.prog 180 1 1 := ⟨fo180_1⟩
theorem fo196_0 : FieldOff Tryz.prog 196 0 0 := FieldOff.mk Tryz.underlying196 rfl rfl rfl Tryz.sizeOf22
instance : TyF Tryz.prog 196 0 0 := ⟨fo196_0⟩
theorem fo196_1 : FieldOff Tryz.prog 196 1 1 := FieldOff.mk Tryz.underlying196 rfl rfl rfl Tryz.sizeOf3
instance : TyF Tryz.prog 196 1 1 := ⟨fo196_1⟩
theorem fo196_2 : FieldOff Tryz.prog 196 2 2 := FieldOff.mk Tryz.underlying196 rfl rfl rfl Tryz.sizeOf3
instance : TyF Tryz.prog 196 2 2 := ⟨fo196_2⟩
theorem fo246_0 : FieldOff Tryz.prog 246 0 0 := FieldOff.mk Tryz.underlying246 rfl rfl rfl Tryz.sizeOf3
instance : TyF Tryz.prog 246 0 0 := ⟨fo246_0⟩
theorem fo246_1 : FieldOff Tryz.prog 246 1 1 := FieldOff.mk Tryz.underlying246 rfl rfl rfl Tryz.sizeOf3
instance : TyF Tryz.prog 246 1 1 := ⟨fo246_1⟩
theorem fo246_2 : FieldOff Tryz.prog 246 2 2 := FieldOff.mk Tryz.underlying246 rfl rfl rfl Tryz.sizeOf9
instance : TyF Tryz.prog 246 2 2 := ⟨fo246_2⟩
instance : TyS Tryz.prog 3 1 := ⟨Tryz.sizeOf3⟩
instance : TyS Tryz.prog 5 1 := ⟨Tryz.sizeOf5⟩
instance : TyS Tryz.prog 9 1 := ⟨Tryz.sizeOf9⟩
instance : TyS Tryz.prog 22 1 := ⟨Tryz.sizeOf22⟩
instance : TyS Tryz.prog 24 1 := ⟨Tryz.sizeOf24⟩
instance : TyS Tryz.prog 28 1 := ⟨Tryz.sizeOf28⟩
instance : TyS Tryz.prog 29 1 := ⟨Tryz.sizeOf29⟩
instance : TyS Tryz.prog 30 1 := ⟨Tryz.sizeOf30⟩
instance : TyS Tryz.prog 32 2 := ⟨Tryz.sizeOf32⟩
instance : TyS Tryz.prog 33 1 := ⟨Tryz.sizeOf33⟩
instance : TyS Tryz.prog 35 10 := ⟨Tryz.sizeOf35⟩
instance : TyS Tryz.prog 39 3 := ⟨Tryz.sizeOf39⟩
instance : TyS Tryz.prog 43 6 := ⟨Tryz.sizeOf43⟩
instance : TyS Tryz.prog 45 7 := ⟨Tryz.sizeOf45⟩
instance : TyS Tryz.prog 60 3 := ⟨Tryz.sizeOf60⟩
instance : TyS Tryz.prog 110 1 := ⟨Tryz.sizeOf110⟩
instance : TyS Tryz.prog 111 1 := ⟨Tryz.sizeOf111⟩
instance : TyS Tryz.prog 112 2 := ⟨Tryz.sizeOf112⟩
instance : TyS Tryz.prog 114 10 := ⟨Tryz.sizeOf114⟩
instance : TyS Tryz.prog 115 6 := ⟨Tryz.sizeOf115⟩
instance : TyS Tryz.prog 130 2 := ⟨Tryz.sizeOf130⟩
instance : TyS Tryz.prog 180 2 := ⟨Tryz.sizeOf180⟩
instance : TyS Tryz.prog 246 3 := ⟨Tryz.sizeOf246⟩
instance : TyA Tryz.prog 3 false := ⟨Tryz.isAgg3⟩
instance : TyA Tryz.prog 5 false := ⟨Tryz.isAgg5⟩
instance : TyA Tryz.prog 9 false := ⟨Tryz.isAgg9⟩
instance : TyA Tryz.prog 22 false := ⟨Tryz.isAgg22⟩
instance : TyA Tryz.prog 24 false := ⟨Tryz.isAgg24⟩
instance : TyA Tryz.prog 28 false := ⟨Tryz.isAgg28⟩
instance : TyA Tryz.prog 29 false := ⟨Tryz.isAgg29⟩
instance : TyA Tryz.prog 30 false := ⟨Tryz.isAgg30⟩
instance : TyA Tryz.prog 32 true := ⟨Tryz.isAgg32⟩
instance : TyA Tryz.prog 33 false := ⟨Tryz.isAgg33⟩
instance : TyA Tryz.prog 35 true := ⟨Tryz.isAgg35⟩
instance : TyA Tryz.prog 39 true := ⟨Tryz.isAgg39⟩
instance : TyA Tryz.prog 43 true := ⟨Tryz.isAgg43⟩
instance : TyA Tryz.prog 45 true := ⟨Tryz.isAgg45⟩
instance : TyA Tryz.prog 60 true := ⟨Tryz.isAgg60⟩
instance : TyA Tryz.prog 110 false := ⟨Tryz.isAgg110⟩
instance : TyA Tryz.prog 111 false := ⟨Tryz.isAgg111⟩
instance : TyA Tryz.prog 112 true := ⟨Tryz.isAgg112⟩
instance : TyA Tryz.prog 114 true := ⟨Tryz.isAgg114⟩
instance : TyA Tryz.prog 115 true := ⟨Tryz.isAgg115⟩
instance : TyA Tryz.prog 130 true := ⟨Tryz.isAgg130⟩
instance : TyA Tryz.prog 180 true := ⟨Tryz.isAgg180⟩
instance : TyA Tryz.prog 246 true := ⟨Tryz.isAgg246⟩
instance : TyZ Tryz.prog 9 (str []) := ⟨Tryz.zeroValue9⟩
instance : TyZ Tryz.prog 32 (.agg #[.slice none 0 0, .slice none 0 0]) := ⟨Tryz.zeroValue32⟩
instance : TyZ Tryz.prog 35 (.agg #[.int .i64 0, .int .i64 0, .int .i64 0, .int .i64 0, .slice none 0 0, .slice none 0 0, .slice none 0 0, .slice none 0 0, .slice none 0 0, .int .i64 0]) := ⟨Tryz.zeroValue35⟩
instance : TyZ Tryz.prog 39 (.agg #[.int .i64 0, .int .i64 0, str []]) := ⟨Tryz.zeroValue39⟩
instance : TyZ Tryz.prog 43 (.agg #[.int .i64 0, str [], str [], .int .i64 0, .int .i64 0, str []]) := ⟨Tryz.zeroValue43⟩
instance : TyZ Tryz.prog 45 (.agg #[.int .i64 0, .int .i64 0, str [], str [], .int .i64 0, .int .i64 0, str []]) := ⟨Tryz.zeroValue45⟩
instance : TyZ Tryz.prog 60 (.agg #[.slice none 0 0, .slice none 0 0, .slice none 0 0]) := ⟨Tryz.zeroValue60⟩
instance : TyZ Tryz.prog 130 (.agg #[str [], str []]) := ⟨Tryz.zeroValue130⟩
instance : TyU Tryz.prog 9 .string := ⟨Tryz.underlying9⟩
instance : TyU Tryz.prog 22 (.slice 5) := ⟨Tryz.underlying22⟩
instance : TyU Tryz.prog 24 (.slice 130) := ⟨Tryz.underlying24⟩
instance : TyU Tryz.prog 25 (.slice 45) := ⟨Tryz.underlying25⟩
instance : TyU Tryz.prog 28 (.slice 43) := ⟨Tryz.underlying28⟩
instance : TyU Tryz.prog 29 (.slice 39) := ⟨Tryz.underlying29⟩
instance : TyU Tryz.prog 30 (.slice 9) := ⟨Tryz.underlying30⟩
instance : TyU Tryz.prog 33 (.slice 3) := ⟨Tryz.underlying33⟩
instance : TyU Tryz.prog 90 (.slice 35) := ⟨Tryz.underlying90⟩
instance : TyU Tryz.prog 109 (.slice 180) := ⟨Tryz.underlying109⟩
instance : TyU Tryz.prog 110 (.slice 115) := ⟨Tryz.underlying110⟩
instance : TyU Tryz.prog 111 (.slice 246) := ⟨Tryz.underlying111⟩
end Go.Proofs.YthlfmbbaomdciaaGreatDoor
set_option linter.unusedSimpArgs false
set_option linter.unusedVariables false
set_option linter.unnecessarySimpa false
set_option maxHeartbeats 4000000
set_option maxRecDepth 4000
namespace Go.Proofs.YthlfmbbaomdciaaGreatDoor
open Go Go.RowKit
attribute [local irreducible] JL JC JQ JO LO PO JA JX Ct
theorem take_succ_eq {α : Type} {s t : List α} {j : Nat} (d : α) (h : s.take j = t.take j) (hj : j < s.length) (hl : s.length = t.length) (he : s.getD j d = t.getD j d) : s.take (j + 1) = t.take (j + 1) := by
 rw [List.take_add_one, List.take_add_one, h]
 congr 1
 have h1 : s[j]? = some (s.getD j d) := getD_some hj
 have h2 : t[j]? = some (t.getD j d) := getD_some (by omega)
 rw [h1, h2, he]
theorem take_all_eq {α : Type} {s t : List α} {j : Nat} (h : s.take j = t.take j) (hj : s.length ≤ j) (hl : s.length = t.length) : s = t := by
 rw [List.take_of_length_le hj, List.take_of_length_le (by omega)] at h
 exact h
end Go.Proofs.YthlfmbbaomdciaaGreatDoor
namespace Go.Proofs.YthlfmbbaomdciaaGreatDoor
open Go Go.RowKit
theorem info_of {P : Program} {el : TypeId} {ti : TypeInfo} (w : World) (h : ∀ w, (typeInfo el).run P w = .ok ti w) : P.info? el = some ti := by
 have h1 := h w
 cases hi : P.info? el with
 | none => simp [typeInfo, hi] at h1
 | some i => simp [typeInfo, hi] at h1; rw [h1]

/-- Where a piece of a slice begins. -/
def subA (k : Nat) (a : Option Addr) (c lo : Nat) : Option Addr := if c = lo then a else a.map fun g => ⟨g.block, g.off + lo * k, none⟩

section
variable {P : Program} {ops : Array Oper} {Q : Exit → Act → World → Prop} {n : Nat} {w0 w : World} {D : List Nat} {L : List Res} {e : Env}
variable {d : Option Tmp} {ty : TypeId} {pos : String} {aft : Array Edge} {gd : Option (Nat × Bool)}

theorem sub_add {k c lo : Nat} {a : Option Addr} (ha : a.bind (·.spot) = none) : (if c = lo then a else a.map (·.add (lo * k))) = subA k a c lo := by
 unfold subA
 split
 · rfl
 · cases a with
   | none => rfl
   | some g =>
     obtain ⟨b, o, s⟩ := g
     simp only [Option.bind_some] at ha
     subst ha
     simp [add_lit]
theorem sub_zero {k c : Nat} {a : Option Addr} (ha : a.bind (·.spot) = none) : subA k a c 0 = a := by
 unfold subA
 split
 · rfl
 · cases a with
   | none => rfl
   | some g =>
     obtain ⟨b, o, s⟩ := g
     simp only [Option.bind_some] at ha
     subst ha
     simp

theorem elem_of {t el : TypeId} (ht : P.underlying t = some (.slice el)) : P.underlying t = some (.slice (P.elem t)) := by
 have : P.elem t = el := by simp [Program.elem, ht]
 rw [this]; exact ht

theorem PO.sliceVl {x lo : Operand} {a : Option Addr} {m c i k : Nat} {q : IntKind} {t el : TypeId} (ht : P.underlying t = some (.slice el)) (hs : ∀ w, (sizeOf el).run P w = .ok k w) (ha : a.bind (·.spot) = none)
   (hx : rd n e x = .slice a m c) (hl : rd n e lo = .int q i) (h1 : i ≤ m) : PO P n e ⟨d, .slice t x (some lo) none none, ty, pos, aft, gd⟩ (.slice (subA k a c i) (m - i) (c - i)) := fun w => by
 have hsub := sub_add (k := k) (c := c) (lo := i) ha
 simp [execOp, run_sliceAt_slice _ _ _ _ _ _ (elem_of ht), Instr.slice, run_underlying ht, hx, hl, Instr.sliceBounds, Instr.sliceBound, asIntOf, hs, h1, hsub]
theorem PO.sliceVh {x hi : Operand} {a : Option Addr} {m c j k : Nat} {q : IntKind} {t el : TypeId} (ht : P.underlying t = some (.slice el)) (hs : ∀ w, (sizeOf el).run P w = .ok k w) (ha : a.bind (·.spot) = none)
   (hx : rd n e x = .slice a m c) (hh : rd n e hi = .int q j) (h1 : j ≤ c) : PO P n e ⟨d, .slice t x none (some hi) none, ty, pos, aft, gd⟩ (.slice a j c) := fun w => by
 have hsub := sub_add (k := k) (c := c) (lo := 0) ha
 rw [sub_zero ha] at hsub
 have hsub' : (if c = 0 then a else a.map (·.add 0)) = a := by rw [Nat.zero_mul] at hsub; exact hsub
 simp [execOp, run_sliceAt_slice _ _ _ _ _ _ (elem_of ht), Instr.slice, run_underlying ht, hx, hh, Instr.sliceBounds, Instr.sliceBound, asIntOf, hs, h1, hsub']

/-- What is seen of a piece. -/
theorem Sees.sub {a : Option Addr} {k m c : Nat} {cs : List Value} (h : Sees w (.slice a m c) k m cs) (lo hi : Nat) (h1 : lo ≤ hi) (h2 : hi ≤ m) :
   Sees w (.slice (subA k a c lo) (hi - lo) (c - lo)) k (hi - lo) ((cs.drop (lo * k)).take ((hi - lo) * k)) := by
 obtain ⟨hl, h⟩ := h
 have e1 : lo * k + (hi - lo) * k = hi * k := by rw [← Nat.add_mul]; congr 1; omega
 have e2 : hi * k ≤ m * k := Nat.mul_le_mul_right k h2
 refine ⟨by rw [List.length_take, List.length_drop, hl]; omega, ?_⟩
 rcases h with ⟨hv, rfl⟩ | ⟨b, o, cap, hv, h3, h4, h5, h6⟩
 · simp only [Value.slice.injEq] at hv
   obtain ⟨rfl, _, rfl⟩ := hv
   have : lo = 0 := by omega
   subst this
   have : hi = 0 := by omega
   subst this
   exact .inl ⟨by simp [subA], rfl⟩
 · simp only [Value.slice.injEq] at hv
   obtain ⟨rfl, _, rfl⟩ := hv
   unfold subA
   split
   · rename_i hc
     have hz : hi - lo = 0 := by omega
     rw [hz]
     refine .inr ⟨b, o, c - lo, rfl, by omega, by omega, h5, fun j u hj => ?_⟩
     simp at hj
   · refine .inr ⟨b, o + lo * k, c - lo, rfl, by omega, by omega, h5, fun j u hj => ?_⟩
     rw [List.getElem?_take] at hj
     split at hj
     · rw [List.getElem?_drop] at hj
       have := h6 _ _ hj
       rwa [← Nat.add_assoc] at this
     · cases hj
theorem Sees.hi {a : Option Addr} {k m c : Nat} {cs : List Value} (h : Sees w (.slice a m c) k m cs) (hi : Nat) (h2 : hi ≤ m) : Sees w (.slice a hi c) k hi (cs.take (hi * k)) := by
 have h0 := h.sub 0 hi (Nat.zero_le _) h2
 have ha : a.bind (·.spot) = none := by
   rcases h.2 with ⟨hv, _⟩ | ⟨b, o, cap, hv, _⟩ <;> (simp only [Value.slice.injEq] at hv; obtain ⟨rfl, _⟩ := hv; rfl)
 rw [sub_zero ha] at h0
 simpa using h0

/-- Cells laid behind a slice whose row is owned. -/
theorem St.storeRow (hw : St w0 D L w) {i el k m c o : Nat} {a : Option Addr} {cs vs : List Value} (hL : L[i]? = some (.row (.slice a m c) el k m cs)) (h0 : 0 < vs.length) (hfit : o + vs.length ≤ cs.length) (h1 : ∀ u ∈ vs, u.oneCell' = true) :
   ∃ g, a = some ⟨g, 0, none⟩ ∧ ∃ w', (storeCells ⟨g, o, none⟩ vs).run P w = .ok () w' ∧ St w0 D (L.set i (.row (.slice a m c) el k m (cs.take o ++ vs ++ cs.drop (o + vs.length)))) w' := by
 have hrow := hw.get hL
 have hcl := hrow.1
 rcases hrow.2 with ⟨hvv, hm0⟩ | ⟨g, cap, cur, hvv, hg0, hg, h2, h3, h4, h5⟩
 · subst hm0
   simp only [Nat.zero_mul] at hcl
   omega
 · simp only [Value.slice.injEq] at hvv
   obtain ⟨rfl, _, rfl⟩ := hvv
   have hcur : cs.length ≤ cur.size := by rw [← h5, List.length_take, Array.length_toList]; exact Nat.min_le_right _ _
   have hst := run_storeCells_R P g o el vs 0 cur w hg (by omega) h1
   simp only [Nat.add_zero] at hst
   refine ⟨g, rfl, _, hst, ?_⟩
   refine hw.turn1 hL rfl rfl rfl (by simp) (fun q _ hq => setRow_other w g q _ (by simpa [Res.ids, Value.ownBlock] using hq)) ?_ (by simp [Res.ids, Value.ownBlock]) (fun q hq => .inl (by simpa [Res.ids, Value.ownBlock] using hq))
   refine ⟨?_, .inr ⟨g, c, _, rfl, hg0, hg.setRow (by simp only [List.size_toArray, List.length_append, List.length_take, List.length_drop, Array.length_toList]; omega), h2, h3, ?_, ?_⟩⟩
   · rw [List.length_append, List.length_append, List.length_take, List.length_drop]
     omega
   · simp only [List.size_toArray, List.length_append, List.length_take, List.length_drop, Array.length_toList]
     omega
   · show (cur.toList.take o ++ vs ++ cur.toList.drop (o + vs.length)).take (m * k) = _
     have e1 : cs.take o = cur.toList.take o := by rw [← h5, List.take_take, Nat.min_eq_left (by omega)]
     have e2 : cs.drop (o + vs.length) = (cur.toList.drop (o + vs.length)).take (m * k - (o + vs.length)) := by rw [← h5, List.drop_take]
     rw [e1, e2, List.take_append]
     have e3 : (cur.toList.take o ++ vs).length = o + vs.length := by
       rw [List.length_append, List.length_take, Array.length_toList]; omega
     rw [e3, List.take_of_length_le (by rw [e3]; omega)]

/-- The first cells of what a copy takes. -/
def Fst (P : Program) (w : World) (k q : Nat) (x : Value) (news : List Value) : Prop := ∀ w', w'.heap = w.heap → (Builtin.firstCells k q x).run P w' = .ok news.toArray w'
theorem Fst.sees {k m q c : Nat} {a : Option Addr} {cs : List Value} (h : Sees w (.slice a m c) k m cs) (hq : q ≤ m) : Fst P w k q (.slice a m c) (cs.take (q * k)) := by
 obtain ⟨hl, h⟩ := h
 intro w' hw'
 rcases h with ⟨hv, rfl⟩ | ⟨b, o, cap, hv, h2, h3, h4, h5⟩
 · simp only [Value.slice.injEq] at hv
   obtain ⟨rfl, -, rfl⟩ := hv
   have : q = 0 := by omega
   subst this
   simp [Builtin.firstCells]
 · simp only [Value.slice.injEq] at hv
   obtain ⟨rfl, -, rfl⟩ := hv
   refine run_firstCells_some w' k q ⟨b, o, none⟩ m c _ ?_ fun j v hj => ?_
   · rw [List.length_take, hl]
     exact Nat.min_eq_left (Nat.mul_le_mul_right k hq)
   · rw [add_lit]
     rw [List.getElem?_take] at hj
     split at hj
     · have := h5 j v hj
       simpa [World.cell?, hw'] using this
     · cases hj

/-- copy into a row that is owned. -/
theorem JO.copy (i : Nat) {x y : Operand} {t t' el k m c lo dl dc q sl sc : Nat} {a sa : Option Addr} {cs news cs' : List Value} (hL : L[i]? = some (.row (.slice a m c) el k m cs)) (ht : P.underlying t = some (.slice el)) (hs : ∀ w, (sizeOf el).run P w = .ok k w)
   (hx : rd n e x = .slice (subA k a c lo) dl dc) (hy : rd n e y = .slice sa sl sc) (hq : Nat.min sl dl = q) (hfit : lo + q ≤ m) (h0 : 0 < q) (hk : 0 < k) (hmc : m ≤ c) (hsrc : ∀ w, St w0 D L w → Fst P w k q (.slice sa sl sc) news) (hnl : news.length = q * k)
   (hone : ∀ u ∈ news, u.oneCell' = true) (hc : cs.take (lo * k) ++ news ++ cs.drop (lo * k + news.length) = cs') :
   JO P n w0 D L e ⟨d, .call ⟨.builtin .copy, #[x, y], #[t, t']⟩, ty, pos, aft, gd⟩ (fun v L' => L' = L.set i (.row (.slice a m c) el k m cs')) := JO.ofRun fun w hw => by
 have hcl := (hw.get hL).1
 have hqk : 0 < q * k := Nat.mul_pos h0 hk
 have e1 : lo * k + q * k = (lo + q) * k := by rw [Nat.add_mul]
 have e2 : (lo + q) * k ≤ m * k := Nat.mul_le_mul_right k hfit
 obtain ⟨g, rfl, w', hst, hw'⟩ := hw.storeRow (P := P) hL (o := lo * k) (vs := news) (by omega) (by omega) hone
 have hsub : subA k (some ⟨g, 0, none⟩) c lo = some ⟨g, lo * k, none⟩ := by
   unfold subA
   rw [if_neg (by omega)]
   simp
 rw [hsub] at hx
 rw [hc] at hw'
 have hf := hsrc w hw w rfl
 refine ⟨goInt q, _, w', ?_, rfl, hw'⟩
 simp [execOp, resolve, invoke, builtin, hx, hy, Builtin.copy_, run_underlying ht, hs, Builtin.lenOf, hq, hf, hst]

/-- append(s[:i], make(..)...) where there is no room: a new row; s stays. -/
theorem JO.appendMake (j : Nat) {x y : Operand} {t u el k m c i r by' : Nat} {q kn : IntKind} {a : Option Addr} {cs : List Value} {ti : TypeInfo} {z : Value} (hL : L[j]? = some (.row (.slice a m c) el k m cs)) (ht : P.underlying t = some (.slice el)) (hu : P.underlying u = some (.int kn))
   (hti' : ∀ w, (typeInfo el).run P w = .ok ti w) (hk : ti.size = k) (hk0 : 0 < k) (hby : ti.bytes = by') (hz : ti.zero = some z) (hzc : z.cells.size = k) (hx : rd n e x = .slice a i c) (hy : rd n e y = .int q r) (hi : i ≤ m) (h0 : 0 < r) (hg : c < i + r) (hb : (i + r) * by' ≤ 140737488355328) (hb1 : 0 < by') :
   JO P n w0 D L e ⟨d, .call ⟨.builtin .append, #[x, y], #[t, u]⟩, ty, pos, aft, gd⟩ (fun v L' => ∃ a' c' zs, v = .slice a' (i + r) c' ∧ i + r ≤ c' ∧ a'.isSome = true ∧ a'.bind (·.spot) = none ∧ zs.length = r * k ∧ L' = .row (.slice a' (i + r) c') el k (i + r) (cs.take (i * k) ++ zs) :: L) := JO.ofRun fun w hw => by
 subst hk; subst hby
 have hti := info_of w hti'
 have hrow := hw.get hL
 have hcl : cs.length = m * ti.size := hrow.1
 have h1 : (i + r) * 1 ≤ (i + r) * ti.bytes := Nat.mul_le_mul_left _ hb1
 have h2 : r * ti.bytes ≤ (i + r) * ti.bytes := Nat.mul_le_mul_right _ (by omega)
 have hold : (Builtin.firstCells ti.size i (.slice a i c)).run P w.drew = .ok (cs.take (i * ti.size)).toArray w.drew := by
   have hsee := (hw.drew).see hL
   have := Fst.sees (P := P) (hsee.hi i hi) (Nat.le_refl i) w.drew rfl
   rw [List.take_take, Nat.min_self] at this
   exact this
 have hrun := Lib.run_append_grow_zeros (P := P) w t u ty el ti z q kn ht hu hti hz a i c (cs.take (i * ti.size)) hold r h0 hk0 hg (by omega) (by omega) (growslice_fits hg hb)
 have hlen : (cs.take (i * ti.size)).length = i * ti.size := by
   rw [List.length_take, hcl]
   exact Nat.min_eq_left (Nat.mul_le_mul_right _ hi)
 have hge := grownCap_ge w (i + r) c el
 have hmx := grownCap_le_maxLen w (i + r) c el (by unfold maxLen; omega)
 have hzr : (Builtin.zeroCells z.cells r).size = r * ti.size := by rw [size_zeroCells, hzc]
 have hsz : ((cs.take (i * ti.size)).toArray ++ Builtin.zeroCells z.cells r ++ Builtin.zeroCells z.cells (grownCap w (i + r) c el - (i + r))).size = grownCap w (i + r) c el * ti.size := by
   simp only [Array.size_append, List.size_toArray, hlen, hzr, size_zeroCells, hzc]
   rw [← Nat.add_mul, ← Nat.add_mul]
   congr 1
   omega
 have hst := (hw.drew).newRow el ti.size (i + r) (grownCap w (i + r) c el) _ hge hmx hsz
 have hcs : (((cs.take (i * ti.size)).toArray ++ Builtin.zeroCells z.cells r ++ Builtin.zeroCells z.cells (grownCap w (i + r) c el - (i + r))).toList).take ((i + r) * ti.size) = cs.take (i * ti.size) ++ (Builtin.zeroCells z.cells r).toList := by
   simp only [Array.toList_append]
   rw [List.take_append_of_le_length (by rw [List.length_append, hlen, Array.length_toList, hzr, Nat.add_mul]; exact Nat.le_refl _)]
   exact List.take_of_length_le (by rw [List.length_append, hlen, Array.length_toList, hzr, Nat.add_mul]; exact Nat.le_refl _)
 rw [hcs] at hst
 refine ⟨_, _, _, ?_, ⟨some ⟨w.heap.size, 0, none⟩, grownCap w (i + r) c el, (Builtin.zeroCells z.cells r).toList, rfl, hge, rfl, rfl, by rw [Array.length_toList, hzr], rfl⟩, hst⟩
 simp [execOp, resolve, invoke, builtin, hx, hy, hrun]

/-- clear(s[lo:]), where the row is owned. -/
theorem JO.clear (i : Nat) {x : Operand} {t el k m c lo dc : Nat} {a : Option Addr} {cs : List Value} {z : Value} (hL : L[i]? = some (.row (.slice a m c) el k m cs)) (ht : P.underlying t = some (.slice el)) (hz : ∀ w, (zeroValue el).run P w = .ok z w) (hzc : z.cells.size = k) (hzo : ∀ u ∈ z.cells, u.oneCell' = true)
   (hx : rd n e x = .slice (subA k a c lo) (m - lo) dc) (hk : 0 < k) (hlo : lo ≤ m) (hmc : m ≤ c) :
   JO P n w0 D L e ⟨d, .call ⟨.builtin .clear, #[x], #[t]⟩, ty, pos, aft, gd⟩ (fun v L' => ∃ zs : List Value, zs.length = (m - lo) * k ∧ L' = L.set i (.row (.slice a m c) el k m (cs.take (lo * k) ++ zs))) := JO.ofRun fun w hw => by
 have hcl := (hw.get hL).1
 by_cases h0 : lo = m
 · subst h0
   refine ⟨.tuple #[], _, w, ?_, ⟨[], by simp, rfl⟩, ?_⟩
   · cases hsub : subA k a c lo with
     | none => simp [execOp, resolve, invoke, builtin, hx, hsub, Builtin.clear_, run_underlying ht]
     | some g => simp [execOp, resolve, invoke, builtin, hx, hsub, Builtin.clear_, run_underlying ht]
   · rw [List.append_nil, List.take_of_length_le (by omega)]
     have : L.set i (.row (.slice a lo c) el k lo cs) = L := List.ext_getElem? fun j => by
       rw [List.getElem?_set]
       split
       · rename_i hij; subst hij; split <;> simp_all
       · rfl
     rw [this]; exact hw
 · have hn : (Builtin.zeroCells z.cells (m - lo)).size = (m - lo) * k := by rw [size_zeroCells, hzc]
   have hpos : 0 < (m - lo) * k := Nat.mul_pos (by omega) hk
   have e1 : lo * k + (m - lo) * k = m * k := by rw [← Nat.add_mul]; congr 1; omega
   have hone : ∀ u ∈ (Builtin.zeroCells z.cells (m - lo)).toList, u.oneCell' = true := by
     intro u hu
     simp only [Builtin.zeroCells, Array.toList_map, List.mem_map, Array.mem_toList_iff, Array.mem_range] at hu
     obtain ⟨j, hj, rfl⟩ := hu
     have hjk : j % z.cells.size < z.cells.size := Nat.mod_lt _ (by omega)
     rw [getElem!_pos z.cells (j % z.cells.size) hjk]
     exact hzo _ (Array.getElem_mem hjk)
   obtain ⟨g, rfl, w', hst, hw'⟩ := hw.storeRow (P := P) hL (o := lo * k) (vs := (Builtin.zeroCells z.cells (m - lo)).toList) (by rw [Array.length_toList, hn]; exact hpos) (by rw [Array.length_toList, hn]; omega) hone
   have hsub : subA k (some ⟨g, 0, none⟩) c lo = some ⟨g, lo * k, none⟩ := by
     unfold subA
     rw [if_neg (by omega)]
     simp
   rw [hsub] at hx
   rw [List.drop_of_length_le (by simp only [Array.length_toList, hn]; omega), List.append_nil] at hw'
   refine ⟨.tuple #[], _, w', ?_, ⟨_, by rw [Array.length_toList, hn], rfl⟩, hw'⟩
   have hne : m - lo ≠ 0 := by omega
   obtain ⟨p, hp⟩ : ∃ p, m - lo = p + 1 := ⟨m - lo - 1, by omega⟩
   rw [hp] at hx hst
   simp [execOp, resolve, invoke, builtin, hx, Builtin.clear_, run_underlying ht, hz, hst]

/-- A row of more of its room, and of less. -/
theorem St.widen (hw : St w0 D L w) {i el k m c : Nat} {a : Option Addr} {cs : List Value} (hL : L[i]? = some (.row (.slice a m c) el k m cs)) (q : Nat) (hq : m + q ≤ c) :
   ∃ zs : List Value, zs.length = q * k ∧ St w0 D (L.set i (.row (.slice a (m + q) c) el k (m + q) (cs ++ zs))) w := by
 have hrow := hw.get hL
 have hcl := hrow.1
 rcases hrow.2 with ⟨hvv, hm0⟩ | ⟨g, cap, cur, hvv, hg0, hg, h2, h3, h4, h5⟩
 · simp only [Value.slice.injEq] at hvv
   obtain ⟨rfl, rfl, rfl⟩ := hvv
   have : q = 0 := by omega
   subst this
   refine ⟨[], by simp, ?_⟩
   refine hw.turn1 hL rfl rfl rfl (Nat.le_refl _) (fun _ _ _ => rfl) ?_ (by simp [Res.ids, Value.ownBlock]) (fun q hq => .inl hq)
   simpa using hrow
 · simp only [Value.slice.injEq] at hvv
   obtain ⟨rfl, _, rfl⟩ := hvv
   have e0 : (m + q) * k ≤ c * k := Nat.mul_le_mul_right k hq
   have e1 : (m + q) * k = m * k + q * k := Nat.add_mul _ _ _
   refine ⟨(cur.toList.drop (m * k)).take (q * k), by rw [List.length_take, List.length_drop, Array.length_toList]; omega, ?_⟩
   refine hw.turn1 hL rfl rfl rfl (Nat.le_refl _) (fun _ _ _ => rfl) ?_ (by simp [Res.ids, Value.ownBlock]) (fun q hq => .inl (by simpa [Res.ids, Value.ownBlock] using hq))
   refine ⟨by rw [List.length_append, hcl, List.length_take, List.length_drop, Array.length_toList]; omega, .inr ⟨g, c, cur, rfl, hg0, hg, hq, h3, h4, ?_⟩⟩
   rw [e1, List.take_add, h5]
theorem St.narrow (hw : St w0 D L w) {i el k m c : Nat} {a : Option Addr} {cs : List Value} (hL : L[i]? = some (.row (.slice a m c) el k m cs)) (q : Nat) (hq : q ≤ m) :
   St w0 D (L.set i (.row (.slice a q c) el k q (cs.take (q * k)))) w := by
 have hrow := hw.get hL
 have hcl := hrow.1
 have e0 : q * k ≤ m * k := Nat.mul_le_mul_right k hq
 refine hw.turn1 hL rfl rfl rfl (Nat.le_refl _) (fun _ _ _ => rfl) ?_ (by cases a <;> simp [Res.ids, Value.ownBlock]) (fun q' hq' => .inl (by
   cases a with
   | none => simp [Res.ids, Value.ownBlock] at hq'
   | some g => simpa [Res.ids, Value.ownBlock] using hq'))
 rcases hrow.2 with ⟨hvv, hm0⟩ | ⟨g, cap, cur, hvv, hg0, hg, h2, h3, h4, h5⟩
 · simp only [Value.slice.injEq] at hvv
   obtain ⟨rfl, rfl, rfl⟩ := hvv
   have : q = 0 := by omega
   subst this
   refine ⟨?_, .inl ⟨rfl, rfl⟩⟩
   simp
 · simp only [Value.slice.injEq] at hvv
   obtain ⟨rfl, _, rfl⟩ := hvv
   refine ⟨by rw [List.length_take, hcl]; omega, .inr ⟨g, c, cur, rfl, hg0, hg, by omega, h3, h4, ?_⟩⟩
   rw [← h5, List.take_take, Nat.min_eq_left e0]
theorem JC.widen (i q : Nat) {c' : Code} {el k m c : Nat} {a : Option Addr} {cs : List Value} (hL : L[i]? = some (.row (.slice a m c) el k m cs)) (hq : m + q ≤ c)
   (h : ∀ zs : List Value, zs.length = q * k → JC P Q n w0 D (L.set i (.row (.slice a (m + q) c) el k (m + q) (cs ++ zs))) c' e) : JC P Q n w0 D L c' e := fun w hw => by
 obtain ⟨zs, hz, hst⟩ := hw.widen hL q hq
 exact h zs hz w hst
theorem JC.narrow (i q : Nat) {c' : Code} {el k m c : Nat} {a : Option Addr} {cs cs' : List Value} (hL : L[i]? = some (.row (.slice a m c) el k m cs)) (hq : q ≤ m) (hc : cs.take (q * k) = cs')
   (h : JC P Q n w0 D (L.set i (.row (.slice a q c) el k q cs')) c' e) : JC P Q n w0 D L c' e := fun w hw => h w (by rw [← hc]; exact hw.narrow hL q hq)

/-- Two rows lie apart: slices.overlaps says no. -/
theorem JO.overlaps (i j : Nat) (hij : i ≠ j) {f : FuncId} {x y : Operand} {ats : Array TypeId} {tS tR el k m c m' c' lo dl dc : Nat} {a b : Option Addr} {cs cs' : List Value} (hL : L[i]? = some (.row (.slice a m c) el k m cs)) (hL' : L[j]? = some (.row (.slice b m' c') el k m' cs'))
   (hf : ∀ args w, (callFunc f args).run P w = ((Extern.SlicesOverlaps.overlaps #[tS, tS] #[tR] args).run P w).andThen fun v w' => .ok (.value v) w') (ht : P.underlying tS = some (.slice el)) (hs : ∀ w, (sizeOf el).run P w = .ok k w)
   (hx : rd n e x = .slice a m c) (hy : rd n e y = .slice (subA k b c' lo) dl dc) (hm : 0 < m) (hm' : 0 < m') (hk : 0 < k) (hel : el ≠ TB) :
   JO P n w0 D L e ⟨d, .call ⟨.value (.func f), #[x, y], ats⟩, ty, pos, aft, gd⟩ (fun v L' => v = .bool false ∧ L' = L) := JO.ofRun fun w hw => by
 have h1 := hw.get hL
 have h2 := hw.get hL'
 rcases h1.2 with ⟨_, h0⟩ | ⟨g, cap, cur, hvv, hg0, hg, q2, q3, q4, q5⟩
 · omega
 rcases h2.2 with ⟨_, h0⟩ | ⟨g', cap', cur', hvv', hg0', hg', q2', q3', q4', q5'⟩
 · omega
 simp only [Value.slice.injEq] at hvv hvv'
 obtain ⟨rfl, _, rfl⟩ := hvv
 obtain ⟨rfl, _, rfl⟩ := hvv'
 have hne : g ≠ g' := by
   intro he
   subst he
   have hp := (perm_erase i _ hL)
   have hnd := hw.nodup
   have hnd' := (idsOf_perm hp).nodup_iff.1 hnd
   rw [idsOf_cons, List.nodup_append] at hnd'
   have hmem : (.row (.slice (some ⟨g, 0, none⟩) m' c') el k m' cs' : Res) ∈ L.eraseIdx i := by
     rw [List.mem_eraseIdx_iff_getElem?]
     exact ⟨j, fun h => hij h.symm, hL'⟩
   exact hnd'.2.2 g (by simp [Res.ids, Value.ownBlock]) g (mem_idsOf.2 ⟨_, hmem, by simp [Res.ids, Value.ownBlock]⟩) rfl
 have hblk : ∃ o, subA k (some ⟨g', 0, none⟩) c' lo = some ⟨g', o, none⟩ := by
   unfold subA
   split
   · exact ⟨0, rfl⟩
   · exact ⟨_, rfl⟩
 obtain ⟨o, ho⟩ := hblk
 rw [ho] at hy
 have hc0 : cur'.size ≠ 0 := by
   have : 0 < c' * k := Nat.mul_pos (by omega) hk
   omega
 have hov := Lib.run_overlaps_apart (P := P) w tS tR el ht k hs ⟨g, 0, none⟩ ⟨g', o, none⟩ m c dl dc hne el el cur.size cur'.size hg.shape hg'.shape hc0 (hg.unfrozen (.inr hel)) (hg.unfrozen (.inr hel))
 refine ⟨_, _, w, ?_, ⟨rfl, rfl⟩, hw⟩
 have hr : rd n e (.func f) = .func (.func f) #[] #[] := rfl
 simp [execOp, resolve, Deferred.ofValue, hr, invoke, hx, hy, hf, hov]

/-- append, the row and its length read otherwise. -/
theorem jX (i : Nat) {t u el k m c q by' n' : Nat} {x y : Operand} {vy : Value} {a : Option Addr} {cs news cs' : List Value} {ti : TypeInfo} {z : Value} {el2 : TypeId}
   (hL : L[i]? = some (.row (.slice a m c) el k m cs)) (ht : P.underlying t = some (.slice el)) (hu : P.underlying u = some (.slice el2))
   (hti : ∀ w, (typeInfo el).run P w = .ok ti w) (hk : ti.size = k) (hby : ti.bytes = by') (hz : ti.zero = some z) (hzc : z.cells.size = k)
   (hx : rd n e x = .slice a m c) (hy : rd n e y = vy) (hsrc : ∀ w, St w0 D L w → Src P w k q vy news) (hb : (m + q) * by' ≤ 140737488355328) (hmax : m + q ≤ 9223372036854775807) (hn : m + q = n') (hc : cs ++ news = cs') :
   JO P n w0 D L e ⟨d, .call ⟨.builtin .append, #[x, y], #[t, u]⟩, ty, pos, aft, gd⟩ (fun v L' => ∃ a' c', v = .slice a' n' c' ∧ L' = L.set i (.row (.slice a' n' c') el k n' cs')) := by
 subst hn; subst hc
 exact JO.append i hL ht hu hti hk hby hz hzc hx hy hsrc hb hmax

end

theorem flat_takeN {α : Type} {enc : α → List Value} {k : Nat} (hk : ∀ x, (enc x).length = k) : ∀ (xs : List α) (i : Nat), (xs.flatMap enc).take (i * k) = (xs.take i).flatMap enc
 | [], i => by simp
 | x :: xs, 0 => by simp
 | x :: xs, i + 1 => by
   have e1 : (i + 1) * k = (enc x).length + i * k := by rw [hk, Nat.succ_mul, Nat.add_comm]
   rw [List.take_succ_cons, List.flatMap_cons, List.flatMap_cons, e1, List.take_length_add_append, flat_takeN hk xs i]
theorem flat_dropN {α : Type} {enc : α → List Value} {k : Nat} (hk : ∀ x, (enc x).length = k) : ∀ (xs : List α) (i : Nat), (xs.flatMap enc).drop (i * k) = (xs.drop i).flatMap enc
 | [], i => by simp
 | x :: xs, 0 => by simp
 | x :: xs, i + 1 => by
   have e1 : (i + 1) * k = (enc x).length + i * k := by rw [hk, Nat.succ_mul, Nat.add_comm]
   rw [List.drop_succ_cons, List.flatMap_cons, e1, List.drop_length_add_append, flat_dropN hk xs i]
theorem insC {s : List Cell} {i : Nat} {x : Cell} : (s.flatMap encC).take (i * 2) ++ [str x.1, str x.2] ++ (s.flatMap encC).drop (i * 2) = (insertAt i x s).flatMap encC := by
 rw [flat_takeN encC_len, flat_dropN encC_len]
 simp [insertAt, encC]
theorem insS {s : List Str} {i : Nat} {x : Str} : (s.map str).take (i * 1) ++ [str x] ++ (s.map str).drop (i * 1) = (insertAt i x s).map str := by
 simp [insertAt]
theorem subS {w : World} {a : Option Addr} {c : Nat} {s : List Str} (h : Sees w (.slice a s.length c) 1 s.length (s.map str)) (lo hi : Nat) (h1 : lo ≤ hi) (h2 : hi ≤ s.length) : Sees w (.slice (subA 1 a c lo) (hi - lo) (c - lo)) 1 (hi - lo) (((s.drop lo).take (hi - lo)).map str) := by
 have := h.sub lo hi h1 h2
 rw [← List.map_drop, ← List.map_take] at this
 simpa using this
theorem hiS {w : World} {a : Option Addr} {c : Nat} {s : List Str} (h : Sees w (.slice a s.length c) 1 s.length (s.map str)) (hi : Nat) (h2 : hi ≤ s.length) : Sees w (.slice a hi c) 1 hi ((s.take hi).map str) := by
 have := h.hi hi h2
 rw [← List.map_take] at this
 simpa using this
theorem ins_room {cs zs xs : List Value} {p k : Nat} (hp : p ≤ cs.length) (hz : zs.length = k) (hx : xs.length = k) :
   (((cs ++ zs).take (p + k) ++ cs.drop p ++ (cs ++ zs).drop (p + k + (cs.drop p).length)).take p ++ xs ++ ((cs ++ zs).take (p + k) ++ cs.drop p ++ (cs ++ zs).drop (p + k + (cs.drop p).length)).drop (p + xs.length)) = cs.take p ++ xs ++ cs.drop p := by
 have e1 : (cs ++ zs).drop (p + k + (cs.drop p).length) = [] := List.drop_of_length_le (by simp; omega)
 have e2 : ((cs ++ zs).take (p + k)).length = p + k := by simp; omega
 rw [e1, List.append_nil, List.take_append_of_le_length (by omega), List.take_take, Nat.min_eq_left (by omega), List.take_append_of_le_length hp, hx, List.drop_append, e2, Nat.sub_self, List.drop_zero, List.drop_of_length_le (by omega), List.nil_append]
theorem ins_grow {cs zs xs : List Value} {p k : Nat} (hp : p ≤ cs.length) (hz : zs.length = cs.length - p + k) (hx : xs.length = k) :
   (((cs.take p ++ zs).take p ++ xs ++ (cs.take p ++ zs).drop (p + xs.length)).take (p + k) ++ cs.drop p ++ ((cs.take p ++ zs).take p ++ xs ++ (cs.take p ++ zs).drop (p + xs.length)).drop (p + k + (cs.drop p).length)) = cs.take p ++ xs ++ cs.drop p := by
 have e1 : (cs.take p).length = p := by simp; omega
 have e2 : (cs.take p ++ zs).take p = cs.take p := by rw [List.take_append_of_le_length (by omega), List.take_of_length_le (by omega)]
 have e3 : (cs.take p ++ xs).length = p + k := by simp; omega
 have e4 : ((cs.take p ++ zs).drop (p + xs.length)).length = cs.length - p := by simp; omega
 have e5 : (cs.take p ++ xs ++ (cs.take p ++ zs).drop (p + xs.length)).drop (p + k + (cs.drop p).length) = [] := List.drop_of_length_le (by rw [List.length_append, e3, e4, List.length_drop]; omega)
 rw [e2, e5, List.take_append_of_le_length (by omega), List.take_of_length_le (by omega), List.append_nil]
theorem sees_fits {w : World} {a : Option Addr} {k m m' c : Nat} {cs : List Value} (h : Sees w (.slice a m c) k m' cs) : m ≤ c ∧ c ≤ maxLen ∧ a.bind (·.spot) = none ∧ cs.length = m' * k := by
 obtain ⟨hl, h⟩ := h
 rcases h with ⟨hv, rfl⟩ | ⟨b, o, cap, hv, h1, h2, _⟩
 · simp only [Value.slice.injEq] at hv
   obtain ⟨rfl, rfl, rfl⟩ := hv
   exact ⟨Nat.le_refl _, Nat.zero_le _, rfl, hl⟩
 · simp only [Value.slice.injEq] at hv
   obtain ⟨rfl, rfl, rfl⟩ := hv
   exact ⟨h1, h2, rfl, hl⟩
theorem JO.appendMake' (j : Nat) {P : Program} {n : Nat} {w0 : World} {D : List Nat} {L : List Res} {e : Env} {d : Option Tmp} {ty : TypeId} {pos : String} {aft : Array Edge} {gd : Option (Nat × Bool)} {x y : Operand} {t u el k m c i r by' n' : Nat} {q kn : IntKind} {a : Option Addr} {cs : List Value} {ti : TypeInfo} {z : Value} (hL : L[j]? = some (.row (.slice a m c) el k m cs)) (ht : P.underlying t = some (.slice el)) (hu : P.underlying u = some (.int kn))
   (hti' : ∀ w, (typeInfo el).run P w = .ok ti w) (hk : ti.size = k) (hk0 : 0 < k) (hby : ti.bytes = by') (hz : ti.zero = some z) (hzc : z.cells.size = k) (hx : rd n e x = .slice a i c) (hy : rd n e y = .int q r) (hi : i ≤ m) (h0 : 0 < r) (hg : c < i + r) (hb : (i + r) * by' ≤ 140737488355328) (hb1 : 0 < by') (hn : i + r = n') :
   JO P n w0 D L e ⟨d, .call ⟨.builtin .append, #[x, y], #[t, u]⟩, ty, pos, aft, gd⟩ (fun v L' => ∃ a' c' zs, v = .slice a' n' c' ∧ n' ≤ c' ∧ zs.length = r * k ∧ L' = .row (.slice a' n' c') el k n' (cs.take (i * k) ++ zs) :: L) := by
 subst hn
 intro w hw K Q hK
 refine JO.appendMake j hL ht hu hti' hk hk0 hby hz hzc hx hy hi h0 hg hb hb1 w hw K Q fun v L' w' h hw' => hK v L' w' ?_ hw'
 obtain ⟨a', c', zs, h1, h2, _, _, h3, h4⟩ := h
 exact ⟨a', c', zs, h1, h2, h3, h4⟩
theorem Fst.mid {P : Program} {w : World} {k M i q c : Nat} {a : Option Addr} {X Y : List Value} (h : Sees w (.slice a M c) k M X) (hi : i ≤ M) (hq : q ≤ M - i) (hY : (X.drop (i * k)).take (q * k) = Y) : Fst P w k q (.slice (subA k a c i) (M - i) (c - i)) Y := by
 have h1 := Fst.sees (P := P) (h.sub i M hi (Nat.le_refl _)) hq
 rw [List.take_take, Nat.min_eq_left (Nat.mul_le_mul_right k hq), hY] at h1
 exact h1
theorem tail1 {cs : List Value} {m i k : Nat} (h : cs.length = m * k) : (cs.drop (i * k)).take ((m - i) * k) = cs.drop (i * k) :=
 List.take_of_length_le (by rw [List.length_drop, h, Nat.mul_comm m, Nat.mul_comm i, ← Nat.mul_sub, Nat.mul_comm k]; exact Nat.le_refl _)
theorem tail2 {cs zs : List Value} {m i k : Nat} (h : cs.length = m * k) (hi : i ≤ m) : ((cs ++ zs).drop (i * k)).take ((m - i) * k) = cs.drop (i * k) := by
 have h1 : i * k ≤ m * k := Nat.mul_le_mul_right k hi
 rw [List.drop_append_of_le_length (by omega), List.take_append_of_le_length (by rw [List.length_drop, h, Nat.mul_comm m, Nat.mul_comm i, ← Nat.mul_sub, Nat.mul_comm k]; exact Nat.le_refl _)]
 exact tail1 h
theorem ins_end {α : Type} {s : List α} {i : Nat} {x : α} (h : i = s.length) : insertAt i x s = s ++ [x] := by
 subst h
 simp [insertAt]
theorem sees_none {w : World} {k m m' c : Nat} {cs : List Value} (h : Sees w (.slice none m c) k m' cs) : m' = 0 := by
 rcases h.2 with ⟨_, h0⟩ | ⟨b, o, c', hv, _⟩
 · exact h0
 · simp at hv
theorem PO.eqNil {P : Program} {n : Nat} {e : Env} {d : Option Tmp} {ty : TypeId} {pos : String} {aft : Array Edge} {gd : Option (Nat × Bool)} {x y : Operand} {a : Option Addr} {m c : Nat} {t u el : TypeId} (ht : P.underlying t = some (.slice el)) (hx : rd n e x = .slice a m c) (hy : rd n e y = .slice none 0 0) :
   PO P n e ⟨d, .binOp .eql t x y u, ty, pos, aft, gd⟩ (.bool a.isNone) := fun w => by
 have h := run_equal_slice_nil (P := P) w t el a m c ht
 simp [execOp, hx, hy, eqGuard, binOp, h]
theorem JQ.nilrow (el k : Nat) {Q : Exit → Act → World → Prop} {x : Exit} {n : Nat} {w0 : World} {D : List Nat} {L : List Res} {e : Env} (h : JQ Q x n w0 D (.row (.slice none 0 0) el k 0 [] :: L) e) : JQ Q x n w0 D L e := fun w hw => by
 refine h w ⟨⟨fun r hr => ?_, ?_, ?_, hw.room, hw.glob⟩, hw.os, hw.tape, hw.output, hw.size, ?_, hw.keep⟩
 · rcases List.mem_cons.1 hr with rfl | hr
   · exact ⟨by simp, .inl ⟨rfl, rfl⟩⟩
   · exact hw.holds r hr
 · simpa [idsOf, Res.ids, Value.ownBlock] using hw.nodup
 · intro i hi
   exact hw.low i (by simpa [idsOf, Res.ids, Value.ownBlock] using hi)
 · intro i hi
   exact hw.fresh i (by simpa [idsOf, Res.ids, Value.ownBlock] using hi)
/-- The first place of which p holds, as IndexFunc tells it. -/
def idxI {α : Type} (p : α → Bool) (s : List α) : Int := if findAt p s < s.length then ((findAt p s : Nat) : Int) else -1
theorem idxI_found {α : Type} {p : α → Bool} {s : List α} {j : Nat} (d : α) (h : j < s.length) (hN : ∀ i, i < j → p (s.getD i d) = false) (hp : p (s.getD j d) = true) : idxI p s = ((j : Nat) : Int) := by
 have := findAt_eq p d s j h hN hp
 unfold idxI
 rw [this, if_pos h]
theorem idxI_none {α : Type} {p : α → Bool} {s : List α} {j : Nat} (d : α) (h : s.length ≤ j) (hN : ∀ i, i < j → p (s.getD i d) = false) : idxI p s = -1 := by
 have := findAt_none p d s (fun i hi => hN i (by omega))
 unfold idxI
 rw [this, if_neg (by omega)]
theorem idxI_lo {α : Type} (p : α → Bool) (s : List α) : (idxI p s = -1 ∧ findAt p s = s.length) ∨ (idxI p s = ((findAt p s : Nat) : Int) ∧ findAt p s < s.length) := by
 have := findAt_le p s
 unfold idxI
 split
 · exact .inr ⟨rfl, by assumption⟩
 · exact .inl ⟨rfl, by omega⟩
theorem notin_bk {v : Value} {kb t : Nat} {cs : List Value} (h : ∀ b, v.ownBlock = some b → b ≠ kb) : ∀ b, v.ownBlock = some b → b ∉ idsOf [bk kb t cs] := fun b hb hm => by
 simp only [idsOf, Res.ids, List.flatMap_cons, List.flatMap_nil, List.append_nil, List.mem_singleton] at hm
 exact h b hb hm
theorem St.apartO {w0 w : World} {D : List Nat} {L : List Res} (hw : St w0 D L w) (i j : Nat) (hij : Nat.beq i j = false) {v : Value} {t k m kb t' : Nat} {cs cs' : List Value} (hL : L[i]? = some (.row v t k m cs)) (hL' : L[j]? = some (bk kb t' cs')) : ∀ b, v.ownBlock = some b → b ≠ kb := fun b hb he => by
 subst he
 have hne : i ≠ j := fun h => by subst h; simp at hij
 have hnd' := (idsOf_perm (perm_erase i _ hL)).nodup_iff.1 hw.nodup
 rw [idsOf_cons, List.nodup_append] at hnd'
 have hmem : (bk b t' cs' : Res) ∈ L.eraseIdx i := by
   rw [List.mem_eraseIdx_iff_getElem?]
   exact ⟨j, fun h => hne h.symm, hL'⟩
 exact hnd'.2.2 b (by simp [Res.ids, hb]) b (mem_idsOf.2 ⟨_, hmem, by simp [Res.ids]⟩) rfl
theorem St.apartF {w0 w : World} {D : List Nat} {L : List Res} (hw : St w0 D L w) (j : Nat) {v : Value} {k m kb t' : Nat} {cs cs' : List Value} (hs : Sees w0 v k m cs) (hL' : L[j]? = some (bk kb t' cs')) (hD : kb ∉ D) : ∀ b, v.ownBlock = some b → b ≠ kb := fun b hb he => by
 subst he
 have h1 : b ∈ idsOf L := mem_idsOf.2 ⟨_, List.mem_of_getElem? hL', by simp [Res.ids]⟩
 have h2 : w0.heap.size ≤ b := (hw.fresh b h1).resolve_left hD
 rcases hs.2 with ⟨rfl, _⟩ | ⟨b', o, c, rfl, _, _, h3, _⟩
 · simp [Value.ownBlock] at hb
 · simp only [Value.ownBlock, Option.some.injEq] at hb
   omega
theorem fits_of {w0 : World} {D : List Nat} {L : List Res} (h : ∃ w, St w0 D L w) {i t k m m' c : Nat} {a : Option Addr} {cs : List Value} (hL : L[i]? = some (.row (.slice a m c) t k m' cs)) : m ≤ c ∧ c ≤ maxLen ∧ a.bind (·.spot) = none ∧ cs.length = m' * k := by
 obtain ⟨w, hw⟩ := h
 obtain ⟨hl, a', c', hv, h1, h2, h3, h4, _⟩ := row_form (hw.get hL)
 simp only [Value.slice.injEq] at hv
 obtain ⟨rfl, rfl, rfl⟩ := hv
 exact ⟨h2, h3, h4, hl⟩
section
variable {α : Type} {p : α → Bool}
theorem del_start : ∀ {s : List α}, findAt p s < s.length → s.take (findAt p s) = (s.take (findAt p s + 1)).filter (fun c => !p c)
 | [], h => by simp at h
 | x :: l, h => by
   unfold findAt at h ⊢
   by_cases hx : p x = true
   · simp [hx]
   · simp only [hx] at h ⊢
     have ih := del_start (s := l) (by simpa using h)
     simp only [Bool.false_eq_true, if_false, List.take_succ_cons]
     rw [List.filter_cons_of_pos (by simp [hx]), ← ih]
theorem del_none : ∀ {s : List α}, findAt p s = s.length → s.filter (fun c => !p c) = s
 | [], _ => rfl
 | x :: l, h => by
   unfold findAt at h
   by_cases hx : p x = true
   · simp [hx] at h
   · simp only [hx, Bool.false_eq_true, if_false, List.length_cons, Nat.add_right_cancel_iff] at h
     rw [List.filter_cons_of_pos (by simp [hx]), del_none h]
variable {s X : List α} {i j : Nat} (d : α)
theorem getD_of_drop (h : X.drop j = s.drop j) : X.getD j d = s.getD j d := by
 have := congrArg (fun l => l[0]?) h
 simp only [List.getElem?_drop, Nat.add_zero] at this
 rw [List.getD_eq_getElem?_getD, List.getD_eq_getElem?_getD, this]
theorem drop_more (h : X.drop j = s.drop j) : X.drop (j + 1) = s.drop (j + 1) := by
 have := congrArg (fun l => l.drop 1) h
 simpa [List.drop_drop] using this
theorem del_skip (h : X.drop j = s.drop j) (hj : j < s.length) (hp : p (X.getD j d) = true) (hi : X.take i = (s.take j).filter (fun c => !p c)) : X.take i = (s.take (j + 1)).filter (fun c => !p c) := by
 rw [take_at (getD_some (d := d) hj), List.filter_append, ← hi, ← getD_of_drop d h, List.filter_cons_of_neg (by rw [hp]; simp), List.filter_nil, List.append_nil]
theorem del_keep (h : X.drop j = s.drop j) (hj : j < s.length) (hl : X.length = s.length) (hij : i < j) (hp : p (X.getD j d) = false) (hi : X.take i = (s.take j).filter (fun c => !p c)) : (X.set i (X.getD j d)).take (i + 1) = (s.take (j + 1)).filter (fun c => !p c) := by
 have hx : (X.set i (X.getD j d))[i]? = some (X.getD j d) := by rw [List.getElem?_set_self (by omega)]
 rw [take_at hx, take_at (getD_some (d := d) hj), List.filter_append, ← hi, List.take_set_of_le (Nat.le_refl i)]
 congr 1
 rw [← getD_of_drop d h, List.filter_cons_of_pos (by rw [hp]; rfl), List.filter_nil]
theorem del_keepD (h : X.drop j = s.drop j) (hij : i < j) (y : α) : (X.set i y).drop (j + 1) = s.drop (j + 1) := by
 rw [List.drop_set_of_lt (by omega)]
 exact drop_more h
theorem del_done (hj : s.length ≤ j) (hi : X.take i = (s.take j).filter (fun c => !p c)) : X.take i = s.filter (fun c => !p c) := by
 rw [hi, List.take_of_length_le hj]
theorem del_len (hl : X.length = s.length) (hi : i ≤ s.length) (h : X.take i = s.filter (fun c => !p c)) : (s.filter (fun c => !p c)).length = i := by
 rw [← h, List.length_take]; omega
end
theorem takeC {X : List Cell} {i : Nat} {zs : List Value} (h : i ≤ X.length) : ((X.flatMap encC).take (i * 2) ++ zs).take (i * 2) = (X.take i).flatMap encC := by
 have hl : ((X.flatMap encC).take (i * 2)).length = i * 2 := by rw [List.length_take, lenC]; omega
 rw [List.take_append_of_le_length (by omega), List.take_take, Nat.min_self, flat_takeN encC_len]
/-- A cut: what stands behind is told once, whatever way led there. -/
def Cut (n : Nat) (w0 : World) (D : List Nat) (I : Env → List Res → Prop) : Exit → Act → World → Prop := fun x a w => x = .normal ∧ ∃ e' L', a = act n e' ∧ St w0 D L' w ∧ I e' L'
section
variable {P : Program} {Q : Exit → Act → World → Prop} {n : Nat} {w0 : World} {D : List Nat} {L : List Res} {e : Env} {I : Env → List Res → Prop}
theorem NP.cut : NP (Cut n w0 D I) := fun c a w h => by cases h.1
theorem JQ.cut (h : I e L) : JQ (Cut n w0 D I) .normal n w0 D L e := fun _ hw => ⟨rfl, e, L, rfl, hw, h⟩
theorem JC.cut {c : Code} (I : Env → List Res → Prop) (h1 : JC P (Cut n w0 D I) n w0 D L c e) (h2 : ∀ e' L', I e' L' → JQ Q .normal n w0 D L' e') : JC P Q n w0 D L c e := fun w hw =>
 wp_mono (h1 w hw) fun x a w' hq => by
   obtain ⟨rfl, e', L', rfl, hst, hI⟩ := hq
   exact h2 e' L' hI w' hst
end
section
variable {P : Program} {ops : Array Oper} {Q : Exit → Act → World → Prop} {n : Nat} {w0 : World} {D : List Nat} {L M : List Res} {e : Env} {z fuel : Nat} {listed : Array Bool}
theorem jk (i : Nat) {oi : Oper} {v : Value} (hi : ops[i]? = some oi) (hy : LO P n w0 D M e oi v) (h : JA P ops Q n w0 D M z fuel (listed.setIfInBounds i true) L (updO e oi.dst v))
   (hQ : NP Q := by repeat (first | with_reducible refine NP.th ?_ | with_reducible refine NP.bl ?_ | with_reducible exact NP.body | with_reducible exact NP.cut)) (hs : Region.noSelect ops = true := by kernel_rfl) (hz : lateB ops z i = true := by kernel_rfl) (hf : Region.free .any ops listed i = true := by kernel_rfl)
   (hr : (Region.ready .any ops listed).contains i = true := by kernel_rfl) (hg : oi.guard = none := by rfl) : JA P ops Q n w0 D M z (fuel + 1) listed L e := JA.take i hi hs hQ hz hf hr hg hy h
theorem jd (i : Nat) {oi : Oper} {v : Value} (hi : ops[i]? = some oi) (hy : PO P n e oi v) (h : JA P ops Q n w0 D M z fuel (listed.setIfInBounds i true) L (updO e oi.dst v))
   (hQ : NP Q := by repeat (first | with_reducible refine NP.th ?_ | with_reducible refine NP.bl ?_ | with_reducible exact NP.body | with_reducible exact NP.cut)) (hs : Region.noSelect ops = true := by kernel_rfl) (hf : Region.free .any ops listed i = true := by kernel_rfl)
   (hr : (Region.ready .any ops listed).contains i = true := by kernel_rfl) (hg : oi.guard = none := by rfl) : JA P ops Q n w0 D M z (fuel + 1) listed L e := JA.takeP i hi hs hQ hf hr hg hy h
theorem JX.ls {i : Nat} {o : Oper} {Φ : Value → List Res → Prop} (hi : ops[i]? = some o) (ho : JO P n w0 D L e o Φ) (h : ∀ v L', Φ v L' → JQ Q .normal n w0 D L' (updO e o.dst v))
   (hg : o.guard = none := by rfl) (hiz : z ≤ i := by decide) (hr : Region.ready .any ops (listed.setIfInBounds i true) = [] := by kernel_rfl) : JX P ops Q n w0 D M z fuel listed L e i := JX.last hi hg hiz hr ho h
theorem JX.lt {i : Nat} {o : Oper} {Φ : Value → List Res → Prop} (hi : ops[i]? = some o) (ho : JO P n w0 D L e o Φ) (h : ∀ v L', Φ v L' → JA P ops Q n w0 D [] z fuel (listed.setIfInBounds i true) L' (updO e o.dst v))
   (hg : o.guard = none := by rfl) (hiz : z ≤ i := by decide) (hl : ((List.range listed.size).all fun k => Nat.ble z k || listed.getD k true) = true := by kernel_rfl) : JX P ops Q n w0 D M z fuel listed L e i := JX.late hi hg hiz hl ho h
theorem JL.o {o : Oper} {rest : List Oper} {Φ : Value → List Res → Prop} (ho : JO P n w0 D L e o Φ) (h : ∀ v L', Φ v L' → JL P ops Q n w0 D L' rest (updO e o.dst v)) (hg : o.guard = none := by rfl) : JL P ops Q n w0 D L (o :: rest) e := jF hg ho h
theorem jK {o : Oper} {rest : List Oper} {v : Value} (ho : PO P n e o v) (h : JL P ops Q n w0 D L rest (updO e o.dst v)) (hg : o.guard = none := by rfl) : JL P ops Q n w0 D L (o :: rest) e := kF hg ho h
theorem jU {o : Oper} {rest : List Oper} {v : Value} (ho : LO P n w0 D L e o v) (h : JL P ops Q n w0 D L rest (updO e o.dst v)) (hg : o.guard = none := by rfl) : JL P ops Q n w0 D L (o :: rest) e := JL.ld hg ho h
theorem jh (is : List Nat) {I : Env → List Res → Prop} {A : List Res} (h : I e A) (hp : pickA is L = A := by rfl) (ho : okP is L = true := by kernel_rfl) : JQ (Cut n w0 D I) .normal n w0 D L e := JQ.pk is (hp ▸ JQ.cut h) ho
end
end Go.Proofs.YthlfmbbaomdciaaGreatDoor
