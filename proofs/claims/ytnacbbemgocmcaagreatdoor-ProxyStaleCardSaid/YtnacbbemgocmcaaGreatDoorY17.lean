/- What is run of ProxyStale, 17. -/
import Derived.Test.YtnacbbemgocmcaaGreatDoorY
import Derived.KernelRfl
namespace Go.Ev.YtnacbbemgocmcaaGreatDoor
open Go Go.Ev
set_option maxRecDepth 100000
theorem y3_28 : staB 3 28 7 = true := by kernel_rfl
theorem y8_7 : staB 8 7 7 = true := by kernel_rfl
theorem y8_42 : staB 8 42 7 = true := by kernel_rfl
theorem y12_56 : staB 12 56 5 = true := by kernel_rfl
theorem y14_42 : staB 14 42 7 = true := by kernel_rfl
theorem y21_49 : staB 21 49 7 = true := by kernel_rfl
theorem y23_14 : staB 23 14 7 = true := by kernel_rfl
theorem y31_42 : staB 31 42 7 = true := by kernel_rfl
theorem y33_21 : staB 33 21 7 = true := by kernel_rfl
theorem y41_7 : staB 41 7 7 = true := by kernel_rfl
theorem y47_14 : staB 47 14 7 = true := by kernel_rfl
theorem y48_56 : staB 48 56 5 = true := by kernel_rfl
end Go.Ev.YtnacbbemgocmcaaGreatDoor
