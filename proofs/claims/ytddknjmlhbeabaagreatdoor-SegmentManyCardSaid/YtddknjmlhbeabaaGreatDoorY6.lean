/- What is run of SegmentMany, 6. -/
import Derived.Test.YtddknjmlhbeabaaGreatDoorY
import Derived.KernelRfl
namespace Go.Ev.YtddknjmlhbeabaaGreatDoor
open Go Go.Ev
set_option maxRecDepth 100000
theorem y2_9 : segB 2 9 2 = true := by kernel_rfl
theorem y5_7 : segB 5 7 2 = true := by kernel_rfl
theorem y6_5 : segB 6 5 2 = true := by kernel_rfl
theorem y9_9 : segB 9 9 2 = true := by kernel_rfl
theorem y10_1 : segB 10 1 2 = true := by kernel_rfl
theorem y15_7 : segB 15 7 2 = true := by kernel_rfl
theorem y16_1 : segB 16 1 2 = true := by kernel_rfl
theorem y18_1 : segB 18 1 2 = true := by kernel_rfl
theorem y21_3 : segB 21 3 2 = true := by kernel_rfl
theorem y24_3 : segB 24 3 2 = true := by kernel_rfl
theorem y25_1 : segB 25 1 2 = true := by kernel_rfl
theorem y28_3 : segB 28 3 2 = true := by kernel_rfl
theorem y31_3 : segB 31 3 2 = true := by kernel_rfl
theorem y33_3 : segB 33 3 2 = true := by kernel_rfl
theorem y35_5 : segB 35 5 2 = true := by kernel_rfl
theorem y37_7 : segB 37 7 2 = true := by kernel_rfl
theorem y41_7 : segB 41 7 2 = true := by kernel_rfl
theorem y43_3 : segB 43 3 2 = true := by kernel_rfl
theorem y44_5 : segB 44 5 2 = true := by kernel_rfl
theorem y47_7 : segB 47 7 2 = true := by kernel_rfl
theorem y50_5 : segB 50 5 2 = true := by kernel_rfl
theorem y52_5 : segB 52 5 2 = true := by kernel_rfl
theorem y55_3 : segB 55 3 2 = true := by kernel_rfl
theorem y57_1 : segB 57 1 2 = true := by kernel_rfl
theorem y59_3 : segB 59 3 2 = true := by kernel_rfl
end Go.Ev.YtddknjmlhbeabaaGreatDoor
