/- What is run of ProxyStale, 10. -/
import Derived.Test.YtnacbbemgocmcaaGreatDoorY
import Derived.KernelRfl
namespace Go.Ev.YtnacbbemgocmcaaGreatDoor
open Go Go.Ev
set_option maxRecDepth 100000
theorem y2_28 : staB 2 28 7 = true := by kernel_rfl
theorem y6_0 : staB 6 0 7 = true := by kernel_rfl
theorem y7_35 : staB 7 35 7 = true := by kernel_rfl
theorem y9_0 : staB 9 0 7 = true := by kernel_rfl
theorem y13_35 : staB 13 35 7 = true := by kernel_rfl
theorem y20_35 : staB 20 35 7 = true := by kernel_rfl
theorem y26_7 : staB 26 7 7 = true := by kernel_rfl
theorem y29_35 : staB 29 35 7 = true := by kernel_rfl
theorem y29_56 : staB 29 56 5 = true := by kernel_rfl
theorem y35_21 : staB 35 21 7 = true := by kernel_rfl
theorem y42_28 : staB 42 28 7 = true := by kernel_rfl
theorem y44_49 : staB 44 49 7 = true := by kernel_rfl
theorem y48_28 : staB 48 28 7 = true := by kernel_rfl
end Go.Ev.YtnacbbemgocmcaaGreatDoor
