/- What is run of SegmentMany, 4. -/
import Derived.Test.YtddknjmlhbeabaaGreatDoorY
import Derived.KernelRfl
namespace Go.Ev.YtddknjmlhbeabaaGreatDoor
open Go Go.Ev
set_option maxRecDepth 100000
theorem y2_7 : segB 2 7 2 = true := by kernel_rfl
theorem y4_1 : segB 4 1 2 = true := by kernel_rfl
theorem y7_1 : segB 7 1 2 = true := by kernel_rfl
theorem y9_1 : segB 9 1 2 = true := by kernel_rfl
theorem y11_3 : segB 11 3 2 = true := by kernel_rfl
theorem y14_9 : segB 14 9 2 = true := by kernel_rfl
theorem y15_1 : segB 15 1 2 = true := by kernel_rfl
theorem y19_7 : segB 19 7 2 = true := by kernel_rfl
theorem y22_5 : segB 22 5 2 = true := by kernel_rfl
theorem y23_1 : segB 23 1 2 = true := by kernel_rfl
theorem y25_9 : segB 25 9 2 = true := by kernel_rfl
theorem y28_9 : segB 28 9 2 = true := by kernel_rfl
theorem y32_1 : segB 32 1 2 = true := by kernel_rfl
theorem y32_9 : segB 32 9 2 = true := by kernel_rfl
theorem y34_3 : segB 34 3 2 = true := by kernel_rfl
theorem y39_9 : segB 39 9 2 = true := by kernel_rfl
theorem y40_3 : segB 40 3 2 = true := by kernel_rfl
theorem y42_3 : segB 42 3 2 = true := by kernel_rfl
theorem y45_7 : segB 45 7 2 = true := by kernel_rfl
theorem y48_7 : segB 48 7 2 = true := by kernel_rfl
theorem y49_7 : segB 49 7 2 = true := by kernel_rfl
theorem y53_9 : segB 53 9 2 = true := by kernel_rfl
theorem y54_7 : segB 54 7 2 = true := by kernel_rfl
theorem y56_7 : segB 56 7 2 = true := by kernel_rfl
theorem y60_9 : segB 60 9 2 = true := by kernel_rfl
end Go.Ev.YtddknjmlhbeabaaGreatDoor
