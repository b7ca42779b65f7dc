/-
  The package-level variables that this program's code reads, as the logic carries them along.
-/
import Derived.Test.YtenfajgpdhgknaaGreatDoorProg
import Derived.WalkKit
import Derived.Lib.LaidTab
import Derived.Lib.ItoaNum
set_option linter.unusedSimpArgs false
set_option linter.unusedVariables false
namespace Go.Proofs.YtenfajgpdhgknaaGreatDoor
open Go Go.RowKit

/-- How many blocks hold package-level variables. -/
def GB : Nat := 6
/-- The type of a byte. -/
def TB : Nat := 5
/-- The table of powers reads as laid; the two errors hold something. -/
def Glob (w : World) : Prop := Lib.TabIs Tryz.prog w "internal/strconv.uint64pow10" .u64 Lib.pow10Tab ∧ (∃ tp p, w.var? Tryz.prog "strconv.ErrSyntax" = some #[.iface tp p]) ∧ (∃ tp p, w.var? Tryz.prog "strconv.ErrRange" = some #[.iface tp p])
theorem named1 : Tryz.prog.globalNamed "internal/strconv.uint64pow10" = some 0 := by kernel_rfl
theorem named2 : Tryz.prog.globalNamed "strconv.ErrSyntax" = some 2 := by kernel_rfl
theorem named3 : Tryz.prog.globalNamed "strconv.ErrRange" = some 3 := by kernel_rfl
theorem var_keep {w w' : World} {name : String} {g : Nat} (hn : Tryz.prog.globalNamed name = some g) (h : w'.heap[g]? = w.heap[g]?) : w'.var? Tryz.prog name = w.var? Tryz.prog name := by
  unfold World.var?
  rw [hn]
  simp only [Option.bind_some, h]
theorem Glob.keep {w w' : World} (h : ∀ k, k < GB → w'.heap[k]? = w.heap[k]?) (hg : Glob w) : Glob w' := by
  obtain ⟨h1, ⟨t, v, h2⟩, ⟨s, u, h3⟩⟩ := hg
  refine ⟨?_, ⟨t, v, ?_⟩, ⟨s, u, ?_⟩⟩
  · unfold Lib.TabIs at *; rw [var_keep named1 (h _ (by decide))]; exact h1
  · rw [var_keep named2 (h _ (by decide))]; exact h2
  · rw [var_keep named3 (h _ (by decide))]; exact h3
theorem Glob.two {w : World} (h : Glob w) : ∃ tp p, w.var? Tryz.prog "strconv.ErrSyntax" = some #[.iface tp p] := h.2.1
theorem Glob.three {w : World} (h : Glob w) : ∃ tp p, w.var? Tryz.prog "strconv.ErrRange" = some #[.iface tp p] := h.2.2
/-- The error of an odd length holds something. -/
def HexOk (w : World) : Prop := ∃ tp p, w.var? Tryz.prog "encoding/hex.ErrLength" = some #[.iface tp p]
theorem named4 : Tryz.prog.globalNamed "encoding/hex.ErrLength" = some 1 := by kernel_rfl
theorem HexOk.keep {w w' : World} (h : w'.heap[1]? = w.heap[1]?) (hg : HexOk w) : HexOk w' := by
  obtain ⟨t, v, h1⟩ := hg
  exact ⟨t, v, by rw [var_keep named4 h]; exact h1⟩
theorem HexOk.cell {w : World} (h : HexOk w) : ∃ tp p, w.cell? ⟨1, 0, none⟩ = some (.iface tp p) := by
  obtain ⟨t, v, h1⟩ := h
  refine ⟨t, v, ?_⟩
  unfold World.var? at h1
  rw [named4] at h1
  simp only [Option.bind_some] at h1
  unfold World.cell?
  cases hq : w.heap[1]? with
  | none => rw [hq] at h1; cases h1
  | some o =>
    rw [hq] at h1
    cases o with
    | cells cs tt fz => simp at h1; subst h1; simp
    | _ => simp at h1
theorem HexOk.lt {w : World} (h : HexOk w) : 1 < w.heap.size := by
  obtain ⟨t, v, h1⟩ := h.cell
  exact World.block_lt_of_cell? (w := w) (a := ⟨1, 0, none⟩) h1
theorem hexLow : 1 < GB := by decide
end Go.Proofs.YtenfajgpdhgknaaGreatDoor
