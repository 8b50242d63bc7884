/- What is run of ProxyStale, 27. -/
import Derived.Test.YtnacbbemgocmcaaGreatDoorY
import Derived.KernelRfl
namespace Go.Ev.YtnacbbemgocmcaaGreatDoor
open Go Go.Ev
set_option maxRecDepth 100000
theorem y4_49 : staB 4 49 7 = true := by kernel_rfl
theorem y7_56 : staB 7 56 5 = true := by kernel_rfl
theorem y10_28 : staB 10 28 7 = true := by kernel_rfl
theorem y16_42 : staB 16 42 7 = true := by kernel_rfl
theorem y17_0 : staB 17 0 7 = true := by kernel_rfl
theorem y23_21 : staB 23 21 7 = true := by kernel_rfl
theorem y24_35 : staB 24 35 7 = true := by kernel_rfl
theorem y29_14 : staB 29 14 7 = true := by kernel_rfl
theorem y34_49 : staB 34 49 7 = true := by kernel_rfl
theorem y37_28 : staB 37 28 7 = true := by kernel_rfl
theorem y43_56 : staB 43 56 5 = true := by kernel_rfl
theorem y44_21 : staB 44 21 7 = true := by kernel_rfl
theorem y50_14 : staB 50 14 7 = true := by kernel_rfl
end Go.Ev.YtnacbbemgocmcaaGreatDoor
