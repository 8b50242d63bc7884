/- What is run of ProxyStale, 6. -/
import Derived.Test.YtnacbbemgocmcaaGreatDoorY
import Derived.KernelRfl
namespace Go.Ev.YtnacbbemgocmcaaGreatDoor
open Go Go.Ev
set_option maxRecDepth 100000
theorem y1_49 : staB 1 49 7 = true := by kernel_rfl
theorem y7_7 : staB 7 7 7 = true := by kernel_rfl
theorem y12_49 : staB 12 49 7 = true := by kernel_rfl
theorem y19_42 : staB 19 42 7 = true := by kernel_rfl
theorem y20_7 : staB 20 7 7 = true := by kernel_rfl
theorem y25_56 : staB 25 56 5 = true := by kernel_rfl
theorem y26_21 : staB 26 21 7 = true := by kernel_rfl
theorem y28_28 : staB 28 28 7 = true := by kernel_rfl
theorem y31_14 : staB 31 14 7 = true := by kernel_rfl
theorem y39_14 : staB 39 14 7 = true := by kernel_rfl
theorem y41_49 : staB 41 49 7 = true := by kernel_rfl
theorem y45_35 : staB 45 35 7 = true := by kernel_rfl
end Go.Ev.YtnacbbemgocmcaaGreatDoor
