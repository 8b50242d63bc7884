/- What is run of ProxyStale, 13. -/
import Derived.Test.YtnacbbemgocmcaaGreatDoorY
import Derived.KernelRfl
namespace Go.Ev.YtnacbbemgocmcaaGreatDoor
open Go Go.Ev
set_option maxRecDepth 100000
theorem y2_49 : staB 2 49 7 = true := by kernel_rfl
theorem y8_14 : staB 8 14 7 = true := by kernel_rfl
theorem y12_0 : staB 12 0 7 = true := by kernel_rfl
theorem y14_14 : staB 14 14 7 = true := by kernel_rfl
theorem y21_21 : staB 21 21 7 = true := by kernel_rfl
theorem y27_7 : staB 27 7 7 = true := by kernel_rfl
theorem y27_21 : staB 27 21 7 = true := by kernel_rfl
theorem y30_35 : staB 30 35 7 = true := by kernel_rfl
theorem y32_56 : staB 32 56 5 = true := by kernel_rfl
theorem y36_7 : staB 36 7 7 = true := by kernel_rfl
theorem y43_7 : staB 43 7 7 = true := by kernel_rfl
theorem y47_49 : staB 47 49 7 = true := by kernel_rfl
theorem y49_7 : staB 49 7 7 = true := by kernel_rfl
end Go.Ev.YtnacbbemgocmcaaGreatDoor
