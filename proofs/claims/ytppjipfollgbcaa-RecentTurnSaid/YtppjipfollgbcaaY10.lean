/- What is run of RecentTurn, 10. -/
import Derived.Test.YtppjipfollgbcaaY
import Derived.KernelRfl
namespace Go.Ev.Ytppjipfollgbcaa
open Go Go.Ev
set_option maxRecDepth 100000
theorem y5_0 : turB 5 0 25 = true := by kernel_rfl
theorem y7_25 : turB 7 25 16 = true := by kernel_rfl
theorem y8_25 : turB 8 25 16 = true := by kernel_rfl
theorem y10_0 : turB 10 0 25 = true := by kernel_rfl
theorem y11_25 : turB 11 25 11 = true := by kernel_rfl
theorem y14_39 : turB 14 39 2 = true := by kernel_rfl
theorem y15_24 : turB 15 24 8 = true := by kernel_rfl
theorem y19_38 : turB 19 38 3 = true := by kernel_rfl
theorem y23_26 : turB 23 26 5 = true := by kernel_rfl
theorem y28_30 : turB 28 30 3 = true := by kernel_rfl
theorem y28_35 : turB 28 35 2 = true := by kernel_rfl
theorem y30_0 : turB 30 0 16 = true := by kernel_rfl
end Go.Ev.Ytppjipfollgbcaa
