/- What is run of SegmentMany, 10. -/
import Derived.Test.YtddknjmlhbeabaaGreatDoorY
import Derived.KernelRfl
namespace Go.Ev.YtddknjmlhbeabaaGreatDoor
open Go Go.Ev
set_option maxRecDepth 100000
theorem y1_1 : segB 1 1 2 = true := by kernel_rfl
theorem y4_3 : segB 4 3 2 = true := by kernel_rfl
theorem y7_3 : segB 7 3 2 = true := by kernel_rfl
theorem y9_3 : segB 9 3 2 = true := by kernel_rfl
theorem y11_5 : segB 11 5 2 = true := by kernel_rfl
theorem y13_5 : segB 13 5 2 = true := by kernel_rfl
theorem y17_5 : segB 17 5 2 = true := by kernel_rfl
theorem y19_1 : segB 19 1 2 = true := by kernel_rfl
theorem y20_3 : segB 20 3 2 = true := by kernel_rfl
theorem y23_5 : segB 23 5 2 = true := by kernel_rfl
theorem y26_5 : segB 26 5 2 = true := by kernel_rfl
theorem y29_5 : segB 29 5 2 = true := by kernel_rfl
theorem y30_3 : segB 30 3 2 = true := by kernel_rfl
theorem y32_7 : segB 32 7 2 = true := by kernel_rfl
theorem y36_9 : segB 36 9 2 = true := by kernel_rfl
theorem y38_5 : segB 38 5 2 = true := by kernel_rfl
theorem y40_9 : segB 40 9 2 = true := by kernel_rfl
theorem y42_9 : segB 42 9 2 = true := by kernel_rfl
theorem y46_7 : segB 46 7 2 = true := by kernel_rfl
theorem y47_1 : segB 47 1 2 = true := by kernel_rfl
theorem y49_9 : segB 49 9 2 = true := by kernel_rfl
theorem y51_5 : segB 51 5 2 = true := by kernel_rfl
theorem y56_9 : segB 56 9 2 = true := by kernel_rfl
theorem y58_1 : segB 58 1 2 = true := by kernel_rfl
theorem y58_5 : segB 58 5 2 = true := by kernel_rfl
end Go.Ev.YtddknjmlhbeabaaGreatDoor
