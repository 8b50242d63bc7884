/- What is run of ProxyStale, 19. -/
import Derived.Test.YtnacbbemgocmcaaGreatDoorY
import Derived.KernelRfl
namespace Go.Ev.YtnacbbemgocmcaaGreatDoor
open Go Go.Ev
set_option maxRecDepth 100000
theorem y3_42 : staB 3 42 7 = true := by kernel_rfl
theorem y9_14 : staB 9 14 7 = true := by kernel_rfl
theorem y14_56 : staB 14 56 5 = true := by kernel_rfl
theorem y15_21 : staB 15 21 7 = true := by kernel_rfl
theorem y22_21 : staB 22 21 7 = true := by kernel_rfl
theorem y22_35 : staB 22 35 7 = true := by kernel_rfl
theorem y24_7 : staB 24 7 7 = true := by kernel_rfl
theorem y32_35 : staB 32 35 7 = true := by kernel_rfl
theorem y34_7 : staB 34 7 7 = true := by kernel_rfl
theorem y41_21 : staB 41 21 7 = true := by kernel_rfl
theorem y47_28 : staB 47 28 7 = true := by kernel_rfl
theorem y50_56 : staB 50 56 5 = true := by kernel_rfl
end Go.Ev.YtnacbbemgocmcaaGreatDoor
