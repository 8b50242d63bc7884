/- What is run of ProxyStale, 11. -/
import Derived.Test.YtnacbbemgocmcaaGreatDoorY
import Derived.KernelRfl
namespace Go.Ev.YtnacbbemgocmcaaGreatDoor
open Go Go.Ev
set_option maxRecDepth 100000
theorem y2_35 : staB 2 35 7 = true := by kernel_rfl
theorem y7_42 : staB 7 42 7 = true := by kernel_rfl
theorem y10_0 : staB 10 0 7 = true := by kernel_rfl
theorem y13_7 : staB 13 7 7 = true := by kernel_rfl
theorem y13_42 : staB 13 42 7 = true := by kernel_rfl
theorem y20_42 : staB 20 42 7 = true := by kernel_rfl
theorem y26_14 : staB 26 14 7 = true := by kernel_rfl
theorem y29_42 : staB 29 42 7 = true := by kernel_rfl
theorem y30_56 : staB 30 56 5 = true := by kernel_rfl
theorem y35_28 : staB 35 28 7 = true := by kernel_rfl
theorem y42_35 : staB 42 35 7 = true := by kernel_rfl
theorem y45_49 : staB 45 49 7 = true := by kernel_rfl
theorem y48_35 : staB 48 35 7 = true := by kernel_rfl
end Go.Ev.YtnacbbemgocmcaaGreatDoor
