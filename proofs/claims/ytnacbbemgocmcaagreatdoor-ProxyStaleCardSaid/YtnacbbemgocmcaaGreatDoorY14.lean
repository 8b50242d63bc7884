/- What is run of ProxyStale, 14. -/
import Derived.Test.YtnacbbemgocmcaaGreatDoorY
import Derived.KernelRfl
namespace Go.Ev.YtnacbbemgocmcaaGreatDoor
open Go Go.Ev
set_option maxRecDepth 100000
theorem y3_7 : staB 3 7 7 = true := by kernel_rfl
theorem y8_21 : staB 8 21 7 = true := by kernel_rfl
theorem y13_0 : staB 13 0 7 = true := by kernel_rfl
theorem y14_21 : staB 14 21 7 = true := by kernel_rfl
theorem y21_28 : staB 21 28 7 = true := by kernel_rfl
theorem y27_14 : staB 27 14 7 = true := by kernel_rfl
theorem y30_42 : staB 30 42 7 = true := by kernel_rfl
theorem y33_56 : staB 33 56 5 = true := by kernel_rfl
theorem y34_28 : staB 34 28 7 = true := by kernel_rfl
theorem y36_14 : staB 36 14 7 = true := by kernel_rfl
theorem y43_14 : staB 43 14 7 = true := by kernel_rfl
theorem y48_49 : staB 48 49 7 = true := by kernel_rfl
theorem y49_14 : staB 49 14 7 = true := by kernel_rfl
end Go.Ev.YtnacbbemgocmcaaGreatDoor
