/- What is run of ProxyStale, 3. -/
import Derived.Test.YtnacbbemgocmcaaGreatDoorY
import Derived.KernelRfl
namespace Go.Ev.YtnacbbemgocmcaaGreatDoor
open Go Go.Ev
set_option maxRecDepth 100000
theorem y1_28 : staB 1 28 7 = true := by kernel_rfl
theorem y5_0 : staB 5 0 7 = true := by kernel_rfl
theorem y6_35 : staB 6 35 7 = true := by kernel_rfl
theorem y12_28 : staB 12 28 7 = true := by kernel_rfl
theorem y19_0 : staB 19 0 7 = true := by kernel_rfl
theorem y19_21 : staB 19 21 7 = true := by kernel_rfl
theorem y22_56 : staB 22 56 5 = true := by kernel_rfl
theorem y27_35 : staB 27 35 7 = true := by kernel_rfl
theorem y30_21 : staB 30 21 7 = true := by kernel_rfl
theorem y38_28 : staB 38 28 7 = true := by kernel_rfl
theorem y40_42 : staB 40 42 7 = true := by kernel_rfl
theorem y45_14 : staB 45 14 7 = true := by kernel_rfl
end Go.Ev.YtnacbbemgocmcaaGreatDoor
