/- What is run of ProxyStale, 34. -/
import Derived.Test.YtnacbbemgocmcaaGreatDoorY
import Derived.KernelRfl
namespace Go.Ev.YtnacbbemgocmcaaGreatDoor
open Go Go.Ev
set_option maxRecDepth 100000
theorem y2_56 : staB 2 56 5 = true := by kernel_rfl
theorem y5_49 : staB 5 49 7 = true := by kernel_rfl
theorem y7_0 : staB 7 0 7 = true := by kernel_rfl
theorem y11_35 : staB 11 35 7 = true := by kernel_rfl
theorem y18_21 : staB 18 21 7 = true := by kernel_rfl
theorem y24_21 : staB 24 21 7 = true := by kernel_rfl
theorem y25_14 : staB 25 14 7 = true := by kernel_rfl
theorem y26_28 : staB 26 28 7 = true := by kernel_rfl
theorem y35_7 : staB 35 7 7 = true := by kernel_rfl
theorem y36_56 : staB 36 56 5 = true := by kernel_rfl
theorem y37_49 : staB 37 49 7 = true := by kernel_rfl
theorem y42_14 : staB 42 14 7 = true := by kernel_rfl
theorem y48_14 : staB 48 14 7 = true := by kernel_rfl
end Go.Ev.YtnacbbemgocmcaaGreatDoor
