/- What is run of ProxyStale, 18. -/
import Derived.Test.YtnacbbemgocmcaaGreatDoorY
import Derived.KernelRfl
namespace Go.Ev.YtnacbbemgocmcaaGreatDoor
open Go Go.Ev
set_option maxRecDepth 100000
theorem y3_35 : staB 3 35 7 = true := by kernel_rfl
theorem y8_49 : staB 8 49 7 = true := by kernel_rfl
theorem y13_56 : staB 13 56 5 = true := by kernel_rfl
theorem y14_49 : staB 14 49 7 = true := by kernel_rfl
theorem y15_14 : staB 15 14 7 = true := by kernel_rfl
theorem y22_28 : staB 22 28 7 = true := by kernel_rfl
theorem y24_0 : staB 24 0 7 = true := by kernel_rfl
theorem y31_49 : staB 31 49 7 = true := by kernel_rfl
theorem y34_0 : staB 34 0 7 = true := by kernel_rfl
theorem y41_14 : staB 41 14 7 = true := by kernel_rfl
theorem y47_21 : staB 47 21 7 = true := by kernel_rfl
theorem y49_56 : staB 49 56 5 = true := by kernel_rfl
end Go.Ev.YtnacbbemgocmcaaGreatDoor
