/- What is run of SegmentMany, 9. -/
import Derived.Test.YtddknjmlhbeabaaGreatDoorY
import Derived.KernelRfl
namespace Go.Ev.YtddknjmlhbeabaaGreatDoor
open Go Go.Ev
set_option maxRecDepth 100000
theorem y3_1 : segB 3 1 2 = true := by kernel_rfl
theorem y3_7 : segB 3 7 2 = true := by kernel_rfl
theorem y7_9 : segB 7 9 2 = true := by kernel_rfl
theorem y8_3 : segB 8 3 2 = true := by kernel_rfl
theorem y12_5 : segB 12 5 2 = true := by kernel_rfl
theorem y14_1 : segB 14 1 2 = true := by kernel_rfl
theorem y16_5 : segB 16 5 2 = true := by kernel_rfl
theorem y18_5 : segB 18 5 2 = true := by kernel_rfl
theorem y21_7 : segB 21 7 2 = true := by kernel_rfl
theorem y24_7 : segB 24 7 2 = true := by kernel_rfl
theorem y25_5 : segB 25 5 2 = true := by kernel_rfl
theorem y28_7 : segB 28 7 2 = true := by kernel_rfl
theorem y31_7 : segB 31 7 2 = true := by kernel_rfl
theorem y33_7 : segB 33 7 2 = true := by kernel_rfl
theorem y35_9 : segB 35 9 2 = true := by kernel_rfl
theorem y38_9 : segB 38 9 2 = true := by kernel_rfl
theorem y39_1 : segB 39 1 2 = true := by kernel_rfl
theorem y44_1 : segB 44 1 2 = true := by kernel_rfl
theorem y44_9 : segB 44 9 2 = true := by kernel_rfl
theorem y47_3 : segB 47 3 2 = true := by kernel_rfl
theorem y51_1 : segB 51 1 2 = true := by kernel_rfl
theorem y51_7 : segB 51 7 2 = true := by kernel_rfl
theorem y55_9 : segB 55 9 2 = true := by kernel_rfl
theorem y57_7 : segB 57 7 2 = true := by kernel_rfl
theorem y59_9 : segB 59 9 2 = true := by kernel_rfl
end Go.Ev.YtddknjmlhbeabaaGreatDoor
