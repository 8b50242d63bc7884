/- What is run of SegmentMany, 7. -/
import Derived.Test.YtddknjmlhbeabaaGreatDoorY
import Derived.KernelRfl
namespace Go.Ev.YtddknjmlhbeabaaGreatDoor
open Go Go.Ev
set_option maxRecDepth 100000
theorem y1_7 : segB 1 7 2 = true := by kernel_rfl
theorem y4_9 : segB 4 9 2 = true := by kernel_rfl
theorem y8_1 : segB 8 1 2 = true := by kernel_rfl
theorem y8_9 : segB 8 9 2 = true := by kernel_rfl
theorem y10_3 : segB 10 3 2 = true := by kernel_rfl
theorem y15_9 : segB 15 9 2 = true := by kernel_rfl
theorem y16_3 : segB 16 3 2 = true := by kernel_rfl
theorem y18_3 : segB 18 3 2 = true := by kernel_rfl
theorem y21_5 : segB 21 5 2 = true := by kernel_rfl
theorem y24_5 : segB 24 5 2 = true := by kernel_rfl
theorem y25_3 : segB 25 3 2 = true := by kernel_rfl
theorem y28_5 : segB 28 5 2 = true := by kernel_rfl
theorem y31_5 : segB 31 5 2 = true := by kernel_rfl
theorem y33_5 : segB 33 5 2 = true := by kernel_rfl
theorem y35_7 : segB 35 7 2 = true := by kernel_rfl
theorem y37_9 : segB 37 9 2 = true := by kernel_rfl
theorem y41_9 : segB 41 9 2 = true := by kernel_rfl
theorem y43_5 : segB 43 5 2 = true := by kernel_rfl
theorem y44_7 : segB 44 7 2 = true := by kernel_rfl
theorem y47_9 : segB 47 9 2 = true := by kernel_rfl
theorem y50_7 : segB 50 7 2 = true := by kernel_rfl
theorem y52_7 : segB 52 7 2 = true := by kernel_rfl
theorem y55_5 : segB 55 5 2 = true := by kernel_rfl
theorem y57_3 : segB 57 3 2 = true := by kernel_rfl
theorem y59_5 : segB 59 5 2 = true := by kernel_rfl
end Go.Ev.YtddknjmlhbeabaaGreatDoor
