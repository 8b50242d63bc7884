/- What is run of ProxyStale, 21. -/
import Derived.Test.YtnacbbemgocmcaaGreatDoorY
import Derived.KernelRfl
namespace Go.Ev.YtnacbbemgocmcaaGreatDoor
open Go Go.Ev
set_option maxRecDepth 100000
theorem y4_7 : staB 4 7 7 = true := by kernel_rfl
theorem y9_28 : staB 9 28 7 = true := by kernel_rfl
theorem y11_7 : staB 11 7 7 = true := by kernel_rfl
theorem y15_35 : staB 15 35 7 = true := by kernel_rfl
theorem y16_56 : staB 16 56 5 = true := by kernel_rfl
theorem y22_7 : staB 22 7 7 = true := by kernel_rfl
theorem y22_49 : staB 22 49 7 = true := by kernel_rfl
theorem y32_21 : staB 32 21 7 = true := by kernel_rfl
theorem y32_49 : staB 32 49 7 = true := by kernel_rfl
theorem y36_35 : staB 36 35 7 = true := by kernel_rfl
theorem y40_14 : staB 40 14 7 = true := by kernel_rfl
theorem y46_28 : staB 46 28 7 = true := by kernel_rfl
end Go.Ev.YtnacbbemgocmcaaGreatDoor
