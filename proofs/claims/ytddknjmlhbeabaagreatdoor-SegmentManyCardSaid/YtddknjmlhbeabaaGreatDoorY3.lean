/- What is run of SegmentMany, 3. -/
import Derived.Test.YtddknjmlhbeabaaGreatDoorY
import Derived.KernelRfl
namespace Go.Ev.YtddknjmlhbeabaaGreatDoor
open Go Go.Ev
set_option maxRecDepth 100000
theorem y1_5 : segB 1 5 2 = true := by kernel_rfl
theorem y4_7 : segB 4 7 2 = true := by kernel_rfl
theorem y7_7 : segB 7 7 2 = true := by kernel_rfl
theorem y9_7 : segB 9 7 2 = true := by kernel_rfl
theorem y11_9 : segB 11 9 2 = true := by kernel_rfl
theorem y13_9 : segB 13 9 2 = true := by kernel_rfl
theorem y17_9 : segB 17 9 2 = true := by kernel_rfl
theorem y19_5 : segB 19 5 2 = true := by kernel_rfl
theorem y20_7 : segB 20 7 2 = true := by kernel_rfl
theorem y23_9 : segB 23 9 2 = true := by kernel_rfl
theorem y26_9 : segB 26 9 2 = true := by kernel_rfl
theorem y29_7 : segB 29 7 2 = true := by kernel_rfl
theorem y30_5 : segB 30 5 2 = true := by kernel_rfl
theorem y33_9 : segB 33 9 2 = true := by kernel_rfl
theorem y34_1 : segB 34 1 2 = true := by kernel_rfl
theorem y39_7 : segB 39 7 2 = true := by kernel_rfl
theorem y40_1 : segB 40 1 2 = true := by kernel_rfl
theorem y42_1 : segB 42 1 2 = true := by kernel_rfl
theorem y45_5 : segB 45 5 2 = true := by kernel_rfl
theorem y48_5 : segB 48 5 2 = true := by kernel_rfl
theorem y49_5 : segB 49 5 2 = true := by kernel_rfl
theorem y53_7 : segB 53 7 2 = true := by kernel_rfl
theorem y54_5 : segB 54 5 2 = true := by kernel_rfl
theorem y56_5 : segB 56 5 2 = true := by kernel_rfl
theorem y60_7 : segB 60 7 2 = true := by kernel_rfl
end Go.Ev.YtddknjmlhbeabaaGreatDoor
