/- What is run of ProxyStale, 31. -/
import Derived.Test.YtnacbbemgocmcaaGreatDoorY
import Derived.KernelRfl
namespace Go.Ev.YtnacbbemgocmcaaGreatDoor
open Go Go.Ev
set_option maxRecDepth 100000
theorem y3_0 : staB 3 0 7 = true := by kernel_rfl
theorem y5_28 : staB 5 28 7 = true := by kernel_rfl
theorem y11_14 : staB 11 14 7 = true := by kernel_rfl
theorem y14_7 : staB 14 7 7 = true := by kernel_rfl
theorem y17_35 : staB 17 35 7 = true := by kernel_rfl
theorem y25_35 : staB 25 35 7 = true := by kernel_rfl
theorem y28_7 : staB 28 7 7 = true := by kernel_rfl
theorem y36_28 : staB 36 28 7 = true := by kernel_rfl
theorem y36_42 : staB 36 42 7 = true := by kernel_rfl
theorem y38_35 : staB 38 35 7 = true := by kernel_rfl
theorem y38_56 : staB 38 56 5 = true := by kernel_rfl
theorem y43_28 : staB 43 28 7 = true := by kernel_rfl
theorem y49_28 : staB 49 28 7 = true := by kernel_rfl
end Go.Ev.YtnacbbemgocmcaaGreatDoor
