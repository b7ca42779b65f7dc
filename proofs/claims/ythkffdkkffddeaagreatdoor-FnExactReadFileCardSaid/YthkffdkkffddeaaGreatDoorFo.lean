/-
  Where the fields lie in this translation.
-/
import Derived.Test.YthkffdkkffddeaaGreatDoorSlTy
namespace Go.Proofs.YthkffdkkffddeaaGreatDoor
open Go Go.RowKit

theorem mixed : Tryz.prog.follows .mixedOrders = true := by kernel_rfl
theorem fo25_0 : FieldOff Tryz.prog 25 0 0 := FieldOff.mk Tryz.underlying25 rfl rfl rfl Tryz.sizeOf23
theorem fo25_1 : FieldOff Tryz.prog 25 1 1 := FieldOff.mk Tryz.underlying25 rfl rfl rfl Tryz.sizeOf23
theorem fo27_0 : FieldOff Tryz.prog 27 0 0 := FieldOff.mk Tryz.underlying27 rfl rfl rfl Tryz.sizeOf22
theorem fo27_1 : FieldOff Tryz.prog 27 1 1 := FieldOff.mk Tryz.underlying27 rfl rfl rfl Tryz.sizeOf25
theorem fo30_0 : FieldOff Tryz.prog 30 0 0 := FieldOff.mk Tryz.underlying30 rfl rfl rfl Tryz.sizeOf23
theorem fo30_1 : FieldOff Tryz.prog 30 1 1 := FieldOff.mk Tryz.underlying30 rfl rfl rfl Tryz.sizeOf23
theorem fo32_0 : FieldOff Tryz.prog 32 0 0 := FieldOff.mk Tryz.underlying32 rfl rfl rfl Tryz.sizeOf29
theorem fo32_1 : FieldOff Tryz.prog 32 1 1 := FieldOff.mk Tryz.underlying32 rfl rfl rfl Tryz.sizeOf30
theorem fo78_0 : FieldOff Tryz.prog 78 0 0 := FieldOff.mk Tryz.underlying78 rfl rfl rfl Tryz.sizeOf9
theorem fo78_1 : FieldOff Tryz.prog 78 1 1 := FieldOff.mk Tryz.underlying78 rfl rfl rfl Tryz.sizeOf9
theorem fo85_0 : FieldOff Tryz.prog 85 0 0 := FieldOff.mk Tryz.underlying85 rfl rfl rfl Tryz.sizeOf9
theorem fo85_1 : FieldOff Tryz.prog 85 1 1 := FieldOff.mk Tryz.underlying85 rfl rfl rfl Tryz.sizeOf9
end Go.Proofs.YthkffdkkffddeaaGreatDoor
