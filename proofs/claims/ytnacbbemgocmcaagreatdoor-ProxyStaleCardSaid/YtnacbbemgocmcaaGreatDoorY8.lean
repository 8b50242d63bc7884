/- What is run of ProxyStale, 8. -/
import Derived.Test.YtnacbbemgocmcaaGreatDoorY
import Derived.KernelRfl
namespace Go.Ev.YtnacbbemgocmcaaGreatDoor
open Go Go.Ev
set_option maxRecDepth 100000
theorem y2_14 : staB 2 14 7 = true := by kernel_rfl
theorem y7_21 : staB 7 21 7 = true := by kernel_rfl
theorem y13_21 : staB 13 21 7 = true := by kernel_rfl
theorem y20_21 : staB 20 21 7 = true := by kernel_rfl
theorem y21_7 : staB 21 7 7 = true := by kernel_rfl
theorem y27_56 : staB 27 56 5 = true := by kernel_rfl
theorem y28_42 : staB 28 42 7 = true := by kernel_rfl
theorem y32_0 : staB 32 0 7 = true := by kernel_rfl
theorem y39_28 : staB 39 28 7 = true := by kernel_rfl
theorem y40_35 : staB 40 35 7 = true := by kernel_rfl
theorem y42_49 : staB 42 49 7 = true := by kernel_rfl
theorem y46_7 : staB 46 7 7 = true := by kernel_rfl
end Go.Ev.YtnacbbemgocmcaaGreatDoor
