/- What is run of ProxyStale, 15. -/
import Derived.Test.YtnacbbemgocmcaaGreatDoorY
import Derived.KernelRfl
namespace Go.Ev.YtnacbbemgocmcaaGreatDoor
open Go Go.Ev
set_option maxRecDepth 100000
theorem y3_14 : staB 3 14 7 = true := by kernel_rfl
theorem y8_28 : staB 8 28 7 = true := by kernel_rfl
theorem y14_0 : staB 14 0 7 = true := by kernel_rfl
theorem y14_28 : staB 14 28 7 = true := by kernel_rfl
theorem y21_35 : staB 21 35 7 = true := by kernel_rfl
theorem y28_0 : staB 28 0 7 = true := by kernel_rfl
theorem y30_49 : staB 30 49 7 = true := by kernel_rfl
theorem y34_56 : staB 34 56 5 = true := by kernel_rfl
theorem y36_21 : staB 36 21 7 = true := by kernel_rfl
theorem y41_35 : staB 41 35 7 = true := by kernel_rfl
theorem y43_21 : staB 43 21 7 = true := by kernel_rfl
theorem y49_21 : staB 49 21 7 = true := by kernel_rfl
theorem y49_49 : staB 49 49 7 = true := by kernel_rfl
end Go.Ev.YtnacbbemgocmcaaGreatDoor
