/- What is run of ProxyStale, 22. -/
import Derived.Test.YtnacbbemgocmcaaGreatDoorY
import Derived.KernelRfl
namespace Go.Ev.YtnacbbemgocmcaaGreatDoor
open Go Go.Ev
set_option maxRecDepth 100000
theorem y4_14 : staB 4 14 7 = true := by kernel_rfl
theorem y9_35 : staB 9 35 7 = true := by kernel_rfl
theorem y15_42 : staB 15 42 7 = true := by kernel_rfl
theorem y17_56 : staB 17 56 5 = true := by kernel_rfl
theorem y18_14 : staB 18 14 7 = true := by kernel_rfl
theorem y22_14 : staB 22 14 7 = true := by kernel_rfl
theorem y23_28 : staB 23 28 7 = true := by kernel_rfl
theorem y33_0 : staB 33 0 7 = true := by kernel_rfl
theorem y33_35 : staB 33 35 7 = true := by kernel_rfl
theorem y40_21 : staB 40 21 7 = true := by kernel_rfl
theorem y43_42 : staB 43 42 7 = true := by kernel_rfl
theorem y46_35 : staB 46 35 7 = true := by kernel_rfl
end Go.Ev.YtnacbbemgocmcaaGreatDoor
