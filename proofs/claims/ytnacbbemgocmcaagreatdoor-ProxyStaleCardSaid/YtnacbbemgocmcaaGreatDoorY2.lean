/- What is run of ProxyStale, 2. -/
import Derived.Test.YtnacbbemgocmcaaGreatDoorY
import Derived.KernelRfl
namespace Go.Ev.YtnacbbemgocmcaaGreatDoor
open Go Go.Ev
set_option maxRecDepth 100000
theorem y1_21 : staB 1 21 7 = true := by kernel_rfl
theorem y6_28 : staB 6 28 7 = true := by kernel_rfl
theorem y12_21 : staB 12 21 7 = true := by kernel_rfl
theorem y18_49 : staB 18 49 7 = true := by kernel_rfl
theorem y21_56 : staB 21 56 5 = true := by kernel_rfl
theorem y25_7 : staB 25 7 7 = true := by kernel_rfl
theorem y27_28 : staB 27 28 7 = true := by kernel_rfl
theorem y35_0 : staB 35 0 7 = true := by kernel_rfl
theorem y39_49 : staB 39 49 7 = true := by kernel_rfl
theorem y42_7 : staB 42 7 7 = true := by kernel_rfl
theorem y46_42 : staB 46 42 7 = true := by kernel_rfl
theorem y48_7 : staB 48 7 7 = true := by kernel_rfl
end Go.Ev.YtnacbbemgocmcaaGreatDoor
