/- What is run of SegmentMany, 2. -/
import Derived.Test.YtddknjmlhbeabaaGreatDoorY
import Derived.KernelRfl
namespace Go.Ev.YtddknjmlhbeabaaGreatDoor
open Go Go.Ev
set_option maxRecDepth 100000
theorem y2_5 : segB 2 5 2 = true := by kernel_rfl
theorem y5_5 : segB 5 5 2 = true := by kernel_rfl
theorem y6_3 : segB 6 3 2 = true := by kernel_rfl
theorem y8_7 : segB 8 7 2 = true := by kernel_rfl
theorem y12_9 : segB 12 9 2 = true := by kernel_rfl
theorem y14_5 : segB 14 5 2 = true := by kernel_rfl
theorem y16_7 : segB 16 7 2 = true := by kernel_rfl
theorem y18_7 : segB 18 7 2 = true := by kernel_rfl
theorem y21_9 : segB 21 9 2 = true := by kernel_rfl
theorem y24_9 : segB 24 9 2 = true := by kernel_rfl
theorem y25_7 : segB 25 7 2 = true := by kernel_rfl
theorem y29_1 : segB 29 1 2 = true := by kernel_rfl
theorem y29_9 : segB 29 9 2 = true := by kernel_rfl
theorem y34_9 : segB 34 9 2 = true := by kernel_rfl
theorem y36_3 : segB 36 3 2 = true := by kernel_rfl
theorem y37_3 : segB 37 3 2 = true := by kernel_rfl
theorem y39_5 : segB 39 5 2 = true := by kernel_rfl
theorem y43_9 : segB 43 9 2 = true := by kernel_rfl
theorem y45_3 : segB 45 3 2 = true := by kernel_rfl
theorem y48_3 : segB 48 3 2 = true := by kernel_rfl
theorem y49_3 : segB 49 3 2 = true := by kernel_rfl
theorem y53_5 : segB 53 5 2 = true := by kernel_rfl
theorem y54_3 : segB 54 3 2 = true := by kernel_rfl
theorem y56_3 : segB 56 3 2 = true := by kernel_rfl
theorem y60_5 : segB 60 5 2 = true := by kernel_rfl
end Go.Ev.YtddknjmlhbeabaaGreatDoor
