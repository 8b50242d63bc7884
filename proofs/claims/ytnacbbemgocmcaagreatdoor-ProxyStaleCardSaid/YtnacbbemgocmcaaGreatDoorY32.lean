/- What is run of ProxyStale, 32. -/
import Derived.Test.YtnacbbemgocmcaaGreatDoorY
import Derived.KernelRfl
namespace Go.Ev.YtnacbbemgocmcaaGreatDoor
open Go Go.Ev
set_option maxRecDepth 100000
theorem y5_35 : staB 5 35 7 = true := by kernel_rfl
theorem y10_7 : staB 10 7 7 = true := by kernel_rfl
theorem y11_21 : staB 11 21 7 = true := by kernel_rfl
theorem y15_0 : staB 15 0 7 = true := by kernel_rfl
theorem y17_42 : staB 17 42 7 = true := by kernel_rfl
theorem y25_42 : staB 25 42 7 = true := by kernel_rfl
theorem y28_14 : staB 28 14 7 = true := by kernel_rfl
theorem y36_49 : staB 36 49 7 = true := by kernel_rfl
theorem y37_0 : staB 37 0 7 = true := by kernel_rfl
theorem y39_56 : staB 39 56 5 = true := by kernel_rfl
theorem y43_35 : staB 43 35 7 = true := by kernel_rfl
theorem y45_42 : staB 45 42 7 = true := by kernel_rfl
theorem y49_35 : staB 49 35 7 = true := by kernel_rfl
end Go.Ev.YtnacbbemgocmcaaGreatDoor
