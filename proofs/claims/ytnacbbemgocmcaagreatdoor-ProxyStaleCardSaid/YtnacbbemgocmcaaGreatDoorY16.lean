/- What is run of ProxyStale, 16. -/
import Derived.Test.YtnacbbemgocmcaaGreatDoorY
import Derived.KernelRfl
namespace Go.Ev.YtnacbbemgocmcaaGreatDoor
open Go Go.Ev
set_option maxRecDepth 100000
theorem y1_0 : staB 1 0 7 = true := by kernel_rfl
theorem y3_21 : staB 3 21 7 = true := by kernel_rfl
theorem y8_35 : staB 8 35 7 = true := by kernel_rfl
theorem y11_56 : staB 11 56 5 = true := by kernel_rfl
theorem y14_35 : staB 14 35 7 = true := by kernel_rfl
theorem y21_42 : staB 21 42 7 = true := by kernel_rfl
theorem y23_7 : staB 23 7 7 = true := by kernel_rfl
theorem y31_35 : staB 31 35 7 = true := by kernel_rfl
theorem y33_14 : staB 33 14 7 = true := by kernel_rfl
theorem y41_0 : staB 41 0 7 = true := by kernel_rfl
theorem y47_7 : staB 47 7 7 = true := by kernel_rfl
theorem y47_56 : staB 47 56 5 = true := by kernel_rfl
end Go.Ev.YtnacbbemgocmcaaGreatDoor
