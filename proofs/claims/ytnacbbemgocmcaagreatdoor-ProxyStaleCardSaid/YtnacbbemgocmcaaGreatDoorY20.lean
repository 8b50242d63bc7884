/- What is run of ProxyStale, 20. -/
import Derived.Test.YtnacbbemgocmcaaGreatDoorY
import Derived.KernelRfl
namespace Go.Ev.YtnacbbemgocmcaaGreatDoor
open Go Go.Ev
set_option maxRecDepth 100000
theorem y3_49 : staB 3 49 7 = true := by kernel_rfl
theorem y4_0 : staB 4 0 7 = true := by kernel_rfl
theorem y9_21 : staB 9 21 7 = true := by kernel_rfl
theorem y15_28 : staB 15 28 7 = true := by kernel_rfl
theorem y15_56 : staB 15 56 5 = true := by kernel_rfl
theorem y22_0 : staB 22 0 7 = true := by kernel_rfl
theorem y22_42 : staB 22 42 7 = true := by kernel_rfl
theorem y29_28 : staB 29 28 7 = true := by kernel_rfl
theorem y32_14 : staB 32 14 7 = true := by kernel_rfl
theorem y32_42 : staB 32 42 7 = true := by kernel_rfl
theorem y40_7 : staB 40 7 7 = true := by kernel_rfl
theorem y46_21 : staB 46 21 7 = true := by kernel_rfl
end Go.Ev.YtnacbbemgocmcaaGreatDoor
