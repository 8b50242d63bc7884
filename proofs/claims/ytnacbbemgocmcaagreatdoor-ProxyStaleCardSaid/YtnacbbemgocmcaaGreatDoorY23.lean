/- What is run of ProxyStale, 23. -/
import Derived.Test.YtnacbbemgocmcaaGreatDoorY
import Derived.KernelRfl
namespace Go.Ev.YtnacbbemgocmcaaGreatDoor
open Go Go.Ev
set_option maxRecDepth 100000
theorem y4_21 : staB 4 21 7 = true := by kernel_rfl
theorem y9_42 : staB 9 42 7 = true := by kernel_rfl
theorem y15_49 : staB 15 49 7 = true := by kernel_rfl
theorem y18_56 : staB 18 56 5 = true := by kernel_rfl
theorem y23_0 : staB 23 0 7 = true := by kernel_rfl
theorem y23_35 : staB 23 35 7 = true := by kernel_rfl
theorem y25_21 : staB 25 21 7 = true := by kernel_rfl
theorem y33_7 : staB 33 7 7 = true := by kernel_rfl
theorem y33_42 : staB 33 42 7 = true := by kernel_rfl
theorem y40_28 : staB 40 28 7 = true := by kernel_rfl
theorem y47_0 : staB 47 0 7 = true := by kernel_rfl
theorem y50_49 : staB 50 49 7 = true := by kernel_rfl
end Go.Ev.YtnacbbemgocmcaaGreatDoor
