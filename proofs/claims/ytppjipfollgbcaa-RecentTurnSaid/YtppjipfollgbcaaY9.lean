/- What is run of RecentTurn, 9. -/
import Derived.Test.YtppjipfollgbcaaY
import Derived.KernelRfl
namespace Go.Ev.Ytppjipfollgbcaa
open Go Go.Ev
set_option maxRecDepth 100000
theorem y1_0 : turB 1 0 25 = true := by kernel_rfl
theorem y7_0 : turB 7 0 25 = true := by kernel_rfl
theorem y14_0 : turB 14 0 25 = true := by kernel_rfl
theorem y15_0 : turB 15 0 24 = true := by kernel_rfl
theorem y16_23 : turB 16 23 8 = true := by kernel_rfl
theorem y20_21 : turB 20 21 7 = true := by kernel_rfl
theorem y24_39 : turB 24 39 2 = true := by kernel_rfl
theorem y26_32 : turB 26 32 3 = true := by kernel_rfl
theorem y28_33 : turB 28 33 2 = true := by kernel_rfl
theorem y28_37 : turB 28 37 2 = true := by kernel_rfl
theorem y30_29 : turB 30 29 3 = true := by kernel_rfl
theorem y30_36 : turB 30 36 2 = true := by kernel_rfl
end Go.Ev.Ytppjipfollgbcaa
