/- What is run of ProxyStale, 7. -/
import Derived.Test.YtnacbbemgocmcaaGreatDoorY
import Derived.KernelRfl
namespace Go.Ev.YtnacbbemgocmcaaGreatDoor
open Go Go.Ev
set_option maxRecDepth 100000
theorem y2_7 : staB 2 7 7 = true := by kernel_rfl
theorem y7_14 : staB 7 14 7 = true := by kernel_rfl
theorem y13_14 : staB 13 14 7 = true := by kernel_rfl
theorem y19_49 : staB 19 49 7 = true := by kernel_rfl
theorem y21_0 : staB 21 0 7 = true := by kernel_rfl
theorem y26_56 : staB 26 56 5 = true := by kernel_rfl
theorem y28_35 : staB 28 35 7 = true := by kernel_rfl
theorem y31_21 : staB 31 21 7 = true := by kernel_rfl
theorem y33_28 : staB 33 28 7 = true := by kernel_rfl
theorem y39_21 : staB 39 21 7 = true := by kernel_rfl
theorem y42_42 : staB 42 42 7 = true := by kernel_rfl
theorem y46_0 : staB 46 0 7 = true := by kernel_rfl
end Go.Ev.YtnacbbemgocmcaaGreatDoor
