/- What is run of SegmentMany, 11. -/
import Derived.Test.YtddknjmlhbeabaaGreatDoorY
import Derived.KernelRfl
namespace Go.Ev.YtddknjmlhbeabaaGreatDoor
open Go Go.Ev
set_option maxRecDepth 100000
theorem y1_3 : segB 1 3 2 = true := by kernel_rfl
theorem y4_5 : segB 4 5 2 = true := by kernel_rfl
theorem y7_5 : segB 7 5 2 = true := by kernel_rfl
theorem y9_5 : segB 9 5 2 = true := by kernel_rfl
theorem y11_7 : segB 11 7 2 = true := by kernel_rfl
theorem y13_7 : segB 13 7 2 = true := by kernel_rfl
theorem y17_7 : segB 17 7 2 = true := by kernel_rfl
theorem y19_3 : segB 19 3 2 = true := by kernel_rfl
theorem y20_5 : segB 20 5 2 = true := by kernel_rfl
theorem y23_7 : segB 23 7 2 = true := by kernel_rfl
theorem y26_7 : segB 26 7 2 = true := by kernel_rfl
theorem y28_1 : segB 28 1 2 = true := by kernel_rfl
theorem y31_1 : segB 31 1 2 = true := by kernel_rfl
theorem y33_1 : segB 33 1 2 = true := by kernel_rfl
theorem y35_3 : segB 35 3 2 = true := by kernel_rfl
theorem y37_5 : segB 37 5 2 = true := by kernel_rfl
theorem y41_5 : segB 41 5 2 = true := by kernel_rfl
theorem y43_1 : segB 43 1 2 = true := by kernel_rfl
theorem y44_3 : segB 44 3 2 = true := by kernel_rfl
theorem y47_5 : segB 47 5 2 = true := by kernel_rfl
theorem y50_3 : segB 50 3 2 = true := by kernel_rfl
theorem y52_3 : segB 52 3 2 = true := by kernel_rfl
theorem y55_1 : segB 55 1 2 = true := by kernel_rfl
theorem y58_3 : segB 58 3 2 = true := by kernel_rfl
theorem y58_7 : segB 58 7 2 = true := by kernel_rfl
end Go.Ev.YtddknjmlhbeabaaGreatDoor
