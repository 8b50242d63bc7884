/- What is run of ProxyStale, 33. -/
import Derived.Test.YtnacbbemgocmcaaGreatDoorY
import Derived.KernelRfl
namespace Go.Ev.YtnacbbemgocmcaaGreatDoor
open Go Go.Ev
set_option maxRecDepth 100000
theorem y1_56 : staB 1 56 5 = true := by kernel_rfl
theorem y5_42 : staB 5 42 7 = true := by kernel_rfl
theorem y11_28 : staB 11 28 7 = true := by kernel_rfl
theorem y17_14 : staB 17 14 7 = true := by kernel_rfl
theorem y17_49 : staB 17 49 7 = true := by kernel_rfl
theorem y25_49 : staB 25 49 7 = true := by kernel_rfl
theorem y30_14 : staB 30 14 7 = true := by kernel_rfl
theorem y35_56 : staB 35 56 5 = true := by kernel_rfl
theorem y37_42 : staB 37 42 7 = true := by kernel_rfl
theorem y38_21 : staB 38 21 7 = true := by kernel_rfl
theorem y45_7 : staB 45 7 7 = true := by kernel_rfl
theorem y48_42 : staB 48 42 7 = true := by kernel_rfl
theorem y50_42 : staB 50 42 7 = true := by kernel_rfl
end Go.Ev.YtnacbbemgocmcaaGreatDoor
