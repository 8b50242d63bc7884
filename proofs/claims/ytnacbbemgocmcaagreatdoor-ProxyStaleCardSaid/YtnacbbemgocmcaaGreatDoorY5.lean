/- What is run of ProxyStale, 5. -/
import Derived.Test.YtnacbbemgocmcaaGreatDoorY
import Derived.KernelRfl
namespace Go.Ev.YtnacbbemgocmcaaGreatDoor
open Go Go.Ev
set_option maxRecDepth 100000
theorem y1_42 : staB 1 42 7 = true := by kernel_rfl
theorem y6_49 : staB 6 49 7 = true := by kernel_rfl
theorem y12_42 : staB 12 42 7 = true := by kernel_rfl
theorem y19_14 : staB 19 14 7 = true := by kernel_rfl
theorem y19_35 : staB 19 35 7 = true := by kernel_rfl
theorem y20_0 : staB 20 0 7 = true := by kernel_rfl
theorem y24_56 : staB 24 56 5 = true := by kernel_rfl
theorem y27_49 : staB 27 49 7 = true := by kernel_rfl
theorem y31_7 : staB 31 7 7 = true := by kernel_rfl
theorem y39_7 : staB 39 7 7 = true := by kernel_rfl
theorem y41_42 : staB 41 42 7 = true := by kernel_rfl
theorem y45_28 : staB 45 28 7 = true := by kernel_rfl
end Go.Ev.YtnacbbemgocmcaaGreatDoor
