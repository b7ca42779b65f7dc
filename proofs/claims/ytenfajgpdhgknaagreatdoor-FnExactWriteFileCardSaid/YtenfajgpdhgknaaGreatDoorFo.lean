/-
  Where the fields lie in this translation.
-/
import Derived.Test.YtenfajgpdhgknaaGreatDoorSlTy
namespace Go.Proofs.YtenfajgpdhgknaaGreatDoor
open Go Go.RowKit

theorem mixed : Tryz.prog.follows .mixedOrders = true := by kernel_rfl
theorem fo25_0 : FieldOff Tryz.prog 25 0 0 := FieldOff.mk Tryz.underlying25 rfl rfl rfl Tryz.sizeOf23
theorem fo25_1 : FieldOff Tryz.prog 25 1 1 := FieldOff.mk Tryz.underlying25 rfl rfl rfl Tryz.sizeOf23
theorem fo27_0 : FieldOff Tryz.prog 27 0 0 := FieldOff.mk Tryz.underlying27 rfl rfl rfl Tryz.sizeOf22
theorem fo27_1 : FieldOff Tryz.prog 27 1 1 := FieldOff.mk Tryz.underlying27 rfl rfl rfl Tryz.sizeOf25
theorem fo30_0 : FieldOff Tryz.prog 30 0 0 := FieldOff.mk Tryz.underlying30 rfl rfl rfl Tryz.sizeOf23
theorem fo30_1 : FieldOff Tryz.prog 30 1 1 := FieldOff.mk Tryz.underlying30 rfl rfl rfl Tryz.sizeOf23
theorem fo32_0 : FieldOff Tryz.prog 32 0 0 := FieldOff.mk Tryz.underlying32 rfl rfl rfl Tryz.sizeOf29
theorem fo32_1 : FieldOff Tryz.prog 32 1 1 := FieldOff.mk Tryz.underlying32 rfl rfl rfl Tryz.sizeOf30
theorem fo113_0 : FieldOff Tryz.prog 113 0 0 := FieldOff.mk Tryz.underlying113 rfl rfl rfl Tryz.sizeOf9
theorem fo113_1 : FieldOff Tryz.prog 113 1 1 := FieldOff.mk Tryz.underlying113 rfl rfl rfl Tryz.sizeOf9
theorem fo143_0 : FieldOff Tryz.prog 143 0 0 := FieldOff.mk Tryz.underlying143 rfl rfl rfl Tryz.sizeOf9
theorem fo143_1 : FieldOff Tryz.prog 143 1 1 := FieldOff.mk Tryz.underlying143 rfl rfl rfl Tryz.sizeOf9
theorem fo162_0 : FieldOff Tryz.prog 162 0 0 := FieldOff.mk Tryz.underlying162 rfl rfl rfl Tryz.sizeOf44
theorem fo162_1 : FieldOff Tryz.prog 162 1 1 := FieldOff.mk Tryz.underlying162 rfl rfl rfl Tryz.sizeOf3
theorem fo162_2 : FieldOff Tryz.prog 162 2 2 := FieldOff.mk Tryz.underlying162 rfl rfl rfl Tryz.sizeOf3
end Go.Proofs.YtenfajgpdhgknaaGreatDoor
