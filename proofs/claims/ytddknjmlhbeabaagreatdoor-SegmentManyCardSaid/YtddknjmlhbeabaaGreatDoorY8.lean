/- What is run of SegmentMany, 8. -/
import Derived.Test.YtddknjmlhbeabaaGreatDoorY
import Derived.KernelRfl
namespace Go.Ev.YtddknjmlhbeabaaGreatDoor
open Go Go.Ev
set_option maxRecDepth 100000
theorem y1_9 : segB 1 9 2 = true := by kernel_rfl
theorem y5_1 : segB 5 1 2 = true := by kernel_rfl
theorem y5_9 : segB 5 9 2 = true := by kernel_rfl
theorem y10_9 : segB 10 9 2 = true := by kernel_rfl
theorem y12_3 : segB 12 3 2 = true := by kernel_rfl
theorem y13_3 : segB 13 3 2 = true := by kernel_rfl
theorem y15_5 : segB 15 5 2 = true := by kernel_rfl
theorem y20_1 : segB 20 1 2 = true := by kernel_rfl
theorem y20_9 : segB 20 9 2 = true := by kernel_rfl
theorem y23_3 : segB 23 3 2 = true := by kernel_rfl
theorem y26_3 : segB 26 3 2 = true := by kernel_rfl
theorem y29_3 : segB 29 3 2 = true := by kernel_rfl
theorem y30_1 : segB 30 1 2 = true := by kernel_rfl
theorem y32_5 : segB 32 5 2 = true := by kernel_rfl
theorem y36_7 : segB 36 7 2 = true := by kernel_rfl
theorem y38_3 : segB 38 3 2 = true := by kernel_rfl
theorem y40_7 : segB 40 7 2 = true := by kernel_rfl
theorem y42_7 : segB 42 7 2 = true := by kernel_rfl
theorem y46_1 : segB 46 1 2 = true := by kernel_rfl
theorem y46_5 : segB 46 5 2 = true := by kernel_rfl
theorem y50_9 : segB 50 9 2 = true := by kernel_rfl
theorem y52_9 : segB 52 9 2 = true := by kernel_rfl
theorem y55_7 : segB 55 7 2 = true := by kernel_rfl
theorem y57_5 : segB 57 5 2 = true := by kernel_rfl
theorem y59_7 : segB 59 7 2 = true := by kernel_rfl
end Go.Ev.YtddknjmlhbeabaaGreatDoor
