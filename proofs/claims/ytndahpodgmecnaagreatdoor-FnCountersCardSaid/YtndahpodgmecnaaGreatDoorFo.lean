/-
  Where the fields lie in this translation.
-/
import Derived.Test.YtndahpodgmecnaaGreatDoorSlTy
namespace Go.Proofs.YtndahpodgmecnaaGreatDoor
open Go Go.RowKit

theorem mixed : Tryz.prog.follows .mixedOrders = true := by kernel_rfl
theorem fo27_0 : FieldOff Tryz.prog 27 0 0 := FieldOff.mk Tryz.underlying27 rfl rfl rfl Tryz.sizeOf25
theorem fo27_1 : FieldOff Tryz.prog 27 1 1 := FieldOff.mk Tryz.underlying27 rfl rfl rfl Tryz.sizeOf25
theorem fo29_0 : FieldOff Tryz.prog 29 0 0 := FieldOff.mk Tryz.underlying29 rfl rfl rfl Tryz.sizeOf24
theorem fo29_1 : FieldOff Tryz.prog 29 1 1 := FieldOff.mk Tryz.underlying29 rfl rfl rfl Tryz.sizeOf27
theorem fo46_0 : FieldOff Tryz.prog 46 0 0 := FieldOff.mk Tryz.underlying46 rfl rfl rfl Tryz.sizeOf25
theorem fo46_1 : FieldOff Tryz.prog 46 1 1 := FieldOff.mk Tryz.underlying46 rfl rfl rfl Tryz.sizeOf25
theorem fo48_0 : FieldOff Tryz.prog 48 0 0 := FieldOff.mk Tryz.underlying48 rfl rfl rfl Tryz.sizeOf45
theorem fo48_1 : FieldOff Tryz.prog 48 1 1 := FieldOff.mk Tryz.underlying48 rfl rfl rfl Tryz.sizeOf46
theorem fo82_0 : FieldOff Tryz.prog 82 0 0 := FieldOff.mk Tryz.underlying82 rfl rfl rfl Tryz.sizeOf22
theorem fo82_1 : FieldOff Tryz.prog 82 1 1 := FieldOff.mk Tryz.underlying82 rfl rfl rfl Tryz.sizeOf3
theorem fo82_2 : FieldOff Tryz.prog 82 2 2 := FieldOff.mk Tryz.underlying82 rfl rfl rfl Tryz.sizeOf3
theorem fo86_0 : FieldOff Tryz.prog 86 0 0 := FieldOff.mk Tryz.underlying86 rfl rfl rfl Tryz.sizeOf9
theorem fo86_1 : FieldOff Tryz.prog 86 1 1 := FieldOff.mk Tryz.underlying86 rfl rfl rfl Tryz.sizeOf9
theorem fo103_0 : FieldOff Tryz.prog 103 0 0 := FieldOff.mk Tryz.underlying103 rfl rfl rfl Tryz.sizeOf9
theorem fo103_1 : FieldOff Tryz.prog 103 1 1 := FieldOff.mk Tryz.underlying103 rfl rfl rfl Tryz.sizeOf9
end Go.Proofs.YtndahpodgmecnaaGreatDoor
