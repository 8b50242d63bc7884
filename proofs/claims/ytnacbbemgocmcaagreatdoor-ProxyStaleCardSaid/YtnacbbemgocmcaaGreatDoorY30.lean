/- What is run of ProxyStale, 30. -/
import Derived.Test.YtnacbbemgocmcaaGreatDoorY
import Derived.KernelRfl
namespace Go.Ev.YtnacbbemgocmcaaGreatDoor
open Go Go.Ev
set_option maxRecDepth 100000
theorem y5_21 : staB 5 21 7 = true := by kernel_rfl
theorem y10_49 : staB 10 49 7 = true := by kernel_rfl
theorem y10_56 : staB 10 56 5 = true := by kernel_rfl
theorem y17_28 : staB 17 28 7 = true := by kernel_rfl
theorem y18_7 : staB 18 7 7 = true := by kernel_rfl
theorem y25_28 : staB 25 28 7 = true := by kernel_rfl
theorem y30_7 : staB 30 7 7 = true := by kernel_rfl
theorem y35_49 : staB 35 49 7 = true := by kernel_rfl
theorem y38_14 : staB 38 14 7 = true := by kernel_rfl
theorem y44_42 : staB 44 42 7 = true := by kernel_rfl
theorem y45_0 : staB 45 0 7 = true := by kernel_rfl
theorem y46_56 : staB 46 56 5 = true := by kernel_rfl
theorem y50_35 : staB 50 35 7 = true := by kernel_rfl
end Go.Ev.YtnacbbemgocmcaaGreatDoor
