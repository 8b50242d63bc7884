/- What is run of ProxyStale, 25. -/
import Derived.Test.YtnacbbemgocmcaaGreatDoorY
import Derived.KernelRfl
namespace Go.Ev.YtnacbbemgocmcaaGreatDoor
open Go Go.Ev
set_option maxRecDepth 100000
theorem y4_35 : staB 4 35 7 = true := by kernel_rfl
theorem y5_56 : staB 5 56 5 = true := by kernel_rfl
theorem y9_7 : staB 9 7 7 = true := by kernel_rfl
theorem y10_14 : staB 10 14 7 = true := by kernel_rfl
theorem y16_0 : staB 16 0 7 = true := by kernel_rfl
theorem y16_28 : staB 16 28 7 = true := by kernel_rfl
theorem y23_49 : staB 23 49 7 = true := by kernel_rfl
theorem y29_0 : staB 29 0 7 = true := by kernel_rfl
theorem y34_35 : staB 34 35 7 = true := by kernel_rfl
theorem y37_14 : staB 37 14 7 = true := by kernel_rfl
theorem y41_56 : staB 41 56 5 = true := by kernel_rfl
theorem y44_7 : staB 44 7 7 = true := by kernel_rfl
theorem y50_0 : staB 50 0 7 = true := by kernel_rfl
end Go.Ev.YtnacbbemgocmcaaGreatDoor
