/- What is run of SegmentMany, 5. -/
import Derived.Test.YtddknjmlhbeabaaGreatDoorY
import Derived.KernelRfl
namespace Go.Ev.YtddknjmlhbeabaaGreatDoor
open Go Go.Ev
set_option maxRecDepth 100000
theorem y2_1 : segB 2 1 2 = true := by kernel_rfl
theorem y3_5 : segB 3 5 2 = true := by kernel_rfl
theorem y6_9 : segB 6 9 2 = true := by kernel_rfl
theorem y10_7 : segB 10 7 2 = true := by kernel_rfl
theorem y11_1 : segB 11 1 2 = true := by kernel_rfl
theorem y14_7 : segB 14 7 2 = true := by kernel_rfl
theorem y16_9 : segB 16 9 2 = true := by kernel_rfl
theorem y18_9 : segB 18 9 2 = true := by kernel_rfl
theorem y22_1 : segB 22 1 2 = true := by kernel_rfl
theorem y22_7 : segB 22 7 2 = true := by kernel_rfl
theorem y27_1 : segB 27 1 2 = true := by kernel_rfl
theorem y27_7 : segB 27 7 2 = true := by kernel_rfl
theorem y31_9 : segB 31 9 2 = true := by kernel_rfl
theorem y32_3 : segB 32 3 2 = true := by kernel_rfl
theorem y36_5 : segB 36 5 2 = true := by kernel_rfl
theorem y38_1 : segB 38 1 2 = true := by kernel_rfl
theorem y40_5 : segB 40 5 2 = true := by kernel_rfl
theorem y42_5 : segB 42 5 2 = true := by kernel_rfl
theorem y45_9 : segB 45 9 2 = true := by kernel_rfl
theorem y48_9 : segB 48 9 2 = true := by kernel_rfl
theorem y50_1 : segB 50 1 2 = true := by kernel_rfl
theorem y51_3 : segB 51 3 2 = true := by kernel_rfl
theorem y54_9 : segB 54 9 2 = true := by kernel_rfl
theorem y58_9 : segB 58 9 2 = true := by kernel_rfl
theorem y59_1 : segB 59 1 2 = true := by kernel_rfl
end Go.Ev.YtddknjmlhbeabaaGreatDoor
