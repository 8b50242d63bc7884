/- What is run of ProxyStale, 12. -/
import Derived.Test.YtnacbbemgocmcaaGreatDoorY
import Derived.KernelRfl
namespace Go.Ev.YtnacbbemgocmcaaGreatDoor
open Go Go.Ev
set_option maxRecDepth 100000
theorem y2_42 : staB 2 42 7 = true := by kernel_rfl
theorem y7_49 : staB 7 49 7 = true := by kernel_rfl
theorem y11_0 : staB 11 0 7 = true := by kernel_rfl
theorem y13_49 : staB 13 49 7 = true := by kernel_rfl
theorem y20_14 : staB 20 14 7 = true := by kernel_rfl
theorem y20_49 : staB 20 49 7 = true := by kernel_rfl
theorem y27_0 : staB 27 0 7 = true := by kernel_rfl
theorem y29_49 : staB 29 49 7 = true := by kernel_rfl
theorem y31_56 : staB 31 56 5 = true := by kernel_rfl
theorem y36_0 : staB 36 0 7 = true := by kernel_rfl
theorem y43_0 : staB 43 0 7 = true := by kernel_rfl
theorem y46_49 : staB 46 49 7 = true := by kernel_rfl
theorem y49_0 : staB 49 0 7 = true := by kernel_rfl
end Go.Ev.YtnacbbemgocmcaaGreatDoor
