/- What is run of SegmentMany, 1. -/
import Derived.Test.YtddknjmlhbeabaaGreatDoorY
import Derived.KernelRfl
namespace Go.Ev.YtddknjmlhbeabaaGreatDoor
open Go Go.Ev
set_option maxRecDepth 100000
theorem y3_3 : segB 3 3 2 = true := by kernel_rfl
theorem y3_9 : segB 3 9 2 = true := by kernel_rfl
theorem y6_7 : segB 6 7 2 = true := by kernel_rfl
theorem y10_5 : segB 10 5 2 = true := by kernel_rfl
theorem y12_1 : segB 12 1 2 = true := by kernel_rfl
theorem y13_1 : segB 13 1 2 = true := by kernel_rfl
theorem y15_3 : segB 15 3 2 = true := by kernel_rfl
theorem y19_9 : segB 19 9 2 = true := by kernel_rfl
theorem y21_1 : segB 21 1 2 = true := by kernel_rfl
theorem y24_1 : segB 24 1 2 = true := by kernel_rfl
theorem y26_1 : segB 26 1 2 = true := by kernel_rfl
theorem y27_5 : segB 27 5 2 = true := by kernel_rfl
theorem y30_9 : segB 30 9 2 = true := by kernel_rfl
theorem y34_7 : segB 34 7 2 = true := by kernel_rfl
theorem y36_1 : segB 36 1 2 = true := by kernel_rfl
theorem y37_1 : segB 37 1 2 = true := by kernel_rfl
theorem y39_3 : segB 39 3 2 = true := by kernel_rfl
theorem y43_7 : segB 43 7 2 = true := by kernel_rfl
theorem y45_1 : segB 45 1 2 = true := by kernel_rfl
theorem y48_1 : segB 48 1 2 = true := by kernel_rfl
theorem y49_1 : segB 49 1 2 = true := by kernel_rfl
theorem y53_3 : segB 53 3 2 = true := by kernel_rfl
theorem y54_1 : segB 54 1 2 = true := by kernel_rfl
theorem y56_1 : segB 56 1 2 = true := by kernel_rfl
theorem y60_3 : segB 60 3 2 = true := by kernel_rfl
end Go.Ev.YtddknjmlhbeabaaGreatDoor
