/- What is run of ProxyStale, 4. -/
import Derived.Test.YtnacbbemgocmcaaGreatDoorY
import Derived.KernelRfl
namespace Go.Ev.YtnacbbemgocmcaaGreatDoor
open Go Go.Ev
set_option maxRecDepth 100000
theorem y1_35 : staB 1 35 7 = true := by kernel_rfl
theorem y6_42 : staB 6 42 7 = true := by kernel_rfl
theorem y12_7 : staB 12 7 7 = true := by kernel_rfl
theorem y12_35 : staB 12 35 7 = true := by kernel_rfl
theorem y19_7 : staB 19 7 7 = true := by kernel_rfl
theorem y19_28 : staB 19 28 7 = true := by kernel_rfl
theorem y23_56 : staB 23 56 5 = true := by kernel_rfl
theorem y27_42 : staB 27 42 7 = true := by kernel_rfl
theorem y31_0 : staB 31 0 7 = true := by kernel_rfl
theorem y39_0 : staB 39 0 7 = true := by kernel_rfl
theorem y40_49 : staB 40 49 7 = true := by kernel_rfl
theorem y45_21 : staB 45 21 7 = true := by kernel_rfl
end Go.Ev.YtnacbbemgocmcaaGreatDoor
