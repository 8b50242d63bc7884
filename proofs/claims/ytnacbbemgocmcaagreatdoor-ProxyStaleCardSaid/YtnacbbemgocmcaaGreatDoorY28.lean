/- What is run of ProxyStale, 28. -/
import Derived.Test.YtnacbbemgocmcaaGreatDoorY
import Derived.KernelRfl
namespace Go.Ev.YtnacbbemgocmcaaGreatDoor
open Go Go.Ev
set_option maxRecDepth 100000
theorem y5_7 : staB 5 7 7 = true := by kernel_rfl
theorem y8_56 : staB 8 56 5 = true := by kernel_rfl
theorem y10_35 : staB 10 35 7 = true := by kernel_rfl
theorem y16_49 : staB 16 49 7 = true := by kernel_rfl
theorem y17_7 : staB 17 7 7 = true := by kernel_rfl
theorem y24_42 : staB 24 42 7 = true := by kernel_rfl
theorem y29_21 : staB 29 21 7 = true := by kernel_rfl
theorem y30_28 : staB 30 28 7 = true := by kernel_rfl
theorem y35_35 : staB 35 35 7 = true := by kernel_rfl
theorem y38_0 : staB 38 0 7 = true := by kernel_rfl
theorem y44_28 : staB 44 28 7 = true := by kernel_rfl
theorem y44_56 : staB 44 56 5 = true := by kernel_rfl
theorem y50_21 : staB 50 21 7 = true := by kernel_rfl
end Go.Ev.YtnacbbemgocmcaaGreatDoor
