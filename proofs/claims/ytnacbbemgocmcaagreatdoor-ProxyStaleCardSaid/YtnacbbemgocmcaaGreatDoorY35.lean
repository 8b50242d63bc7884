/- What is run of ProxyStale, 35. -/
import Derived.Test.YtnacbbemgocmcaaGreatDoorY
import Derived.KernelRfl
namespace Go.Ev.YtnacbbemgocmcaaGreatDoor
open Go Go.Ev
set_option maxRecDepth 100000
theorem y3_56 : staB 3 56 5 = true := by kernel_rfl
theorem y6_7 : staB 6 7 7 = true := by kernel_rfl
theorem y8_0 : staB 8 0 7 = true := by kernel_rfl
theorem y11_42 : staB 11 42 7 = true := by kernel_rfl
theorem y18_28 : staB 18 28 7 = true := by kernel_rfl
theorem y26_0 : staB 26 0 7 = true := by kernel_rfl
theorem y26_35 : staB 26 35 7 = true := by kernel_rfl
theorem y31_28 : staB 31 28 7 = true := by kernel_rfl
theorem y35_14 : staB 35 14 7 = true := by kernel_rfl
theorem y37_56 : staB 37 56 5 = true := by kernel_rfl
theorem y38_42 : staB 38 42 7 = true := by kernel_rfl
theorem y42_21 : staB 42 21 7 = true := by kernel_rfl
theorem y48_21 : staB 48 21 7 = true := by kernel_rfl
end Go.Ev.YtnacbbemgocmcaaGreatDoor
