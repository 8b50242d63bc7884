/- What is run of RecentTurn, 1. -/
import Derived.Test.YtppjipfollgbcaaY
import Derived.KernelRfl
namespace Go.Ev.Ytppjipfollgbcaa
open Go Go.Ev
set_option maxRecDepth 100000
theorem y11_36 : turB 11 36 5 = true := by kernel_rfl
theorem y16_40 : turB 16 40 1 = true := by kernel_rfl
theorem y18_38 : turB 18 38 3 = true := by kernel_rfl
theorem y19_0 : turB 19 0 22 = true := by kernel_rfl
theorem y21_32 : turB 21 32 4 = true := by kernel_rfl
theorem y21_39 : turB 21 39 2 = true := by kernel_rfl
theorem y22_0 : turB 22 0 20 = true := by kernel_rfl
theorem y23_34 : turB 23 34 3 = true := by kernel_rfl
theorem y28_39 : turB 28 39 2 = true := by kernel_rfl
theorem y29_30 : turB 29 30 3 = true := by kernel_rfl
theorem y29_39 : turB 29 39 2 = true := by kernel_rfl
theorem y30_34 : turB 30 34 2 = true := by kernel_rfl
end Go.Ev.Ytppjipfollgbcaa
