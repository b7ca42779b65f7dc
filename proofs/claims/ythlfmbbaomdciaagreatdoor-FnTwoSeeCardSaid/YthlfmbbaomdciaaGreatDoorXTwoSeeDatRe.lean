/-
Texts of the walk, joined: what each one proves stands at its theorems.
-/
import Derived.Test.YthlfmbbaomdciaaGreatDoorB7DatTy
set_option linter.unusedSimpArgs false
set_option linter.unusedVariables false
set_option linter.unnecessarySimpa false
namespace Go.Proofs.YthlfmbbaomdciaaGreatDoor
open Go Go.RowKit
theorem viewA_new (s : List Cell) {t : TD} {a b c : Int} (h : t = TD.new a b c) : viewA s t = s := by rw [h]; rfl
theorem viewL_new (s : List Cell) {t : TD} {a b c : Int} (h : t = TD.new a b c) : viewL s t = s := by rw [h]; rfl
end Go.Proofs.YthlfmbbaomdciaaGreatDoor
