/- What is run of ProxyStale, 0. -/
import Derived.Test.YtnacbbemgocmcaaGreatDoorY
import Derived.KernelRfl
namespace Go.Ev.YtnacbbemgocmcaaGreatDoor
open Go Go.Ev
set_option maxRecDepth 100000
theorem y1_7 : staB 1 7 7 = true := by kernel_rfl
theorem y6_14 : staB 6 14 7 = true := by kernel_rfl
theorem y11_49 : staB 11 49 7 = true := by kernel_rfl
theorem y18_35 : staB 18 35 7 = true := by kernel_rfl
theorem y19_56 : staB 19 56 5 = true := by kernel_rfl
theorem y24_14 : staB 24 14 7 = true := by kernel_rfl
theorem y26_42 : staB 26 42 7 = true := by kernel_rfl
theorem y32_28 : staB 32 28 7 = true := by kernel_rfl
theorem y34_14 : staB 34 14 7 = true := by kernel_rfl
theorem y38_49 : staB 38 49 7 = true := by kernel_rfl
theorem y41_28 : staB 41 28 7 = true := by kernel_rfl
theorem y47_35 : staB 47 35 7 = true := by kernel_rfl
end Go.Ev.YtnacbbemgocmcaaGreatDoor
