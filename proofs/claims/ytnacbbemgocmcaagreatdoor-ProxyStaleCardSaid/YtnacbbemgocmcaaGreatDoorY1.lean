/- What is run of ProxyStale, 1. -/
import Derived.Test.YtnacbbemgocmcaaGreatDoorY
import Derived.KernelRfl
namespace Go.Ev.YtnacbbemgocmcaaGreatDoor
open Go Go.Ev
set_option maxRecDepth 100000
theorem y1_14 : staB 1 14 7 = true := by kernel_rfl
theorem y6_21 : staB 6 21 7 = true := by kernel_rfl
theorem y12_14 : staB 12 14 7 = true := by kernel_rfl
theorem y18_42 : staB 18 42 7 = true := by kernel_rfl
theorem y20_56 : staB 20 56 5 = true := by kernel_rfl
theorem y25_0 : staB 25 0 7 = true := by kernel_rfl
theorem y26_49 : staB 26 49 7 = true := by kernel_rfl
theorem y34_21 : staB 34 21 7 = true := by kernel_rfl
theorem y39_35 : staB 39 35 7 = true := by kernel_rfl
theorem y39_42 : staB 39 42 7 = true := by kernel_rfl
theorem y42_0 : staB 42 0 7 = true := by kernel_rfl
theorem y48_0 : staB 48 0 7 = true := by kernel_rfl
end Go.Ev.YtnacbbemgocmcaaGreatDoor
