/- What is run of ProxyStale, 29. -/
import Derived.Test.YtnacbbemgocmcaaGreatDoorY
import Derived.KernelRfl
namespace Go.Ev.YtnacbbemgocmcaaGreatDoor
open Go Go.Ev
set_option maxRecDepth 100000
theorem y5_14 : staB 5 14 7 = true := by kernel_rfl
theorem y9_56 : staB 9 56 5 = true := by kernel_rfl
theorem y10_42 : staB 10 42 7 = true := by kernel_rfl
theorem y17_21 : staB 17 21 7 = true := by kernel_rfl
theorem y18_0 : staB 18 0 7 = true := by kernel_rfl
theorem y24_49 : staB 24 49 7 = true := by kernel_rfl
theorem y30_0 : staB 30 0 7 = true := by kernel_rfl
theorem y35_42 : staB 35 42 7 = true := by kernel_rfl
theorem y37_35 : staB 37 35 7 = true := by kernel_rfl
theorem y38_7 : staB 38 7 7 = true := by kernel_rfl
theorem y44_35 : staB 44 35 7 = true := by kernel_rfl
theorem y45_56 : staB 45 56 5 = true := by kernel_rfl
theorem y50_28 : staB 50 28 7 = true := by kernel_rfl
end Go.Ev.YtnacbbemgocmcaaGreatDoor
