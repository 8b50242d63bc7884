/- What is run of ProxyStale, 9. -/
import Derived.Test.YtnacbbemgocmcaaGreatDoorY
import Derived.KernelRfl
namespace Go.Ev.YtnacbbemgocmcaaGreatDoor
open Go Go.Ev
set_option maxRecDepth 100000
theorem y2_21 : staB 2 21 7 = true := by kernel_rfl
theorem y7_28 : staB 7 28 7 = true := by kernel_rfl
theorem y13_28 : staB 13 28 7 = true := by kernel_rfl
theorem y20_28 : staB 20 28 7 = true := by kernel_rfl
theorem y21_14 : staB 21 14 7 = true := by kernel_rfl
theorem y28_49 : staB 28 49 7 = true := by kernel_rfl
theorem y28_56 : staB 28 56 5 = true := by kernel_rfl
theorem y32_7 : staB 32 7 7 = true := by kernel_rfl
theorem y40_0 : staB 40 0 7 = true := by kernel_rfl
theorem y43_49 : staB 43 49 7 = true := by kernel_rfl
theorem y46_14 : staB 46 14 7 = true := by kernel_rfl
theorem y47_42 : staB 47 42 7 = true := by kernel_rfl
end Go.Ev.YtnacbbemgocmcaaGreatDoor
