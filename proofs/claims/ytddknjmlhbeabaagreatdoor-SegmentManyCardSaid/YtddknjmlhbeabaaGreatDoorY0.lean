/- What is run of SegmentMany, 0. -/
import Derived.Test.YtddknjmlhbeabaaGreatDoorY
import Derived.KernelRfl
namespace Go.Ev.YtddknjmlhbeabaaGreatDoor
open Go Go.Ev
set_option maxRecDepth 100000
theorem y2_3 : segB 2 3 2 = true := by kernel_rfl
theorem y5_3 : segB 5 3 2 = true := by kernel_rfl
theorem y6_1 : segB 6 1 2 = true := by kernel_rfl
theorem y8_5 : segB 8 5 2 = true := by kernel_rfl
theorem y12_7 : segB 12 7 2 = true := by kernel_rfl
theorem y14_3 : segB 14 3 2 = true := by kernel_rfl
theorem y17_1 : segB 17 1 2 = true := by kernel_rfl
theorem y17_3 : segB 17 3 2 = true := by kernel_rfl
theorem y22_3 : segB 22 3 2 = true := by kernel_rfl
theorem y22_9 : segB 22 9 2 = true := by kernel_rfl
theorem y27_3 : segB 27 3 2 = true := by kernel_rfl
theorem y27_9 : segB 27 9 2 = true := by kernel_rfl
theorem y30_7 : segB 30 7 2 = true := by kernel_rfl
theorem y34_5 : segB 34 5 2 = true := by kernel_rfl
theorem y35_1 : segB 35 1 2 = true := by kernel_rfl
theorem y38_7 : segB 38 7 2 = true := by kernel_rfl
theorem y41_1 : segB 41 1 2 = true := by kernel_rfl
theorem y41_3 : segB 41 3 2 = true := by kernel_rfl
theorem y46_3 : segB 46 3 2 = true := by kernel_rfl
theorem y46_9 : segB 46 9 2 = true := by kernel_rfl
theorem y51_9 : segB 51 9 2 = true := by kernel_rfl
theorem y52_1 : segB 52 1 2 = true := by kernel_rfl
theorem y53_1 : segB 53 1 2 = true := by kernel_rfl
theorem y57_9 : segB 57 9 2 = true := by kernel_rfl
theorem y60_1 : segB 60 1 2 = true := by kernel_rfl
end Go.Ev.YtddknjmlhbeabaaGreatDoor
