/- What is run of ProxyStale, 26. -/
import Derived.Test.YtnacbbemgocmcaaGreatDoorY
import Derived.KernelRfl
namespace Go.Ev.YtnacbbemgocmcaaGreatDoor
open Go Go.Ev
set_option maxRecDepth 100000
theorem y4_42 : staB 4 42 7 = true := by kernel_rfl
theorem y6_56 : staB 6 56 5 = true := by kernel_rfl
theorem y10_21 : staB 10 21 7 = true := by kernel_rfl
theorem y16_7 : staB 16 7 7 = true := by kernel_rfl
theorem y16_14 : staB 16 14 7 = true := by kernel_rfl
theorem y16_35 : staB 16 35 7 = true := by kernel_rfl
theorem y24_28 : staB 24 28 7 = true := by kernel_rfl
theorem y29_7 : staB 29 7 7 = true := by kernel_rfl
theorem y34_42 : staB 34 42 7 = true := by kernel_rfl
theorem y37_21 : staB 37 21 7 = true := by kernel_rfl
theorem y42_56 : staB 42 56 5 = true := by kernel_rfl
theorem y44_14 : staB 44 14 7 = true := by kernel_rfl
theorem y50_7 : staB 50 7 7 = true := by kernel_rfl
end Go.Ev.YtnacbbemgocmcaaGreatDoor
