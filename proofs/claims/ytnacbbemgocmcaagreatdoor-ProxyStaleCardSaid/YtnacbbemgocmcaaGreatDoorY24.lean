/- What is run of ProxyStale, 24. -/
import Derived.Test.YtnacbbemgocmcaaGreatDoorY
import Derived.KernelRfl
namespace Go.Ev.YtnacbbemgocmcaaGreatDoor
open Go Go.Ev
set_option maxRecDepth 100000
theorem y2_0 : staB 2 0 7 = true := by kernel_rfl
theorem y4_28 : staB 4 28 7 = true := by kernel_rfl
theorem y4_56 : staB 4 56 5 = true := by kernel_rfl
theorem y9_49 : staB 9 49 7 = true := by kernel_rfl
theorem y15_7 : staB 15 7 7 = true := by kernel_rfl
theorem y16_21 : staB 16 21 7 = true := by kernel_rfl
theorem y23_42 : staB 23 42 7 = true := by kernel_rfl
theorem y28_21 : staB 28 21 7 = true := by kernel_rfl
theorem y33_49 : staB 33 49 7 = true := by kernel_rfl
theorem y37_7 : staB 37 7 7 = true := by kernel_rfl
theorem y40_56 : staB 40 56 5 = true := by kernel_rfl
theorem y44_0 : staB 44 0 7 = true := by kernel_rfl
theorem y49_42 : staB 49 42 7 = true := by kernel_rfl
end Go.Ev.YtnacbbemgocmcaaGreatDoor
