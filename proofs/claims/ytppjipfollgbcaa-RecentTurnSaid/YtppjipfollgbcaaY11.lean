/- What is run of RecentTurn, 11. -/
import Derived.Test.YtppjipfollgbcaaY
import Derived.KernelRfl
namespace Go.Ev.Ytppjipfollgbcaa
open Go Go.Ev
set_option maxRecDepth 100000
theorem y2_0 : turB 2 0 25 = true := by kernel_rfl
theorem y6_25 : turB 6 25 16 = true := by kernel_rfl
theorem y12_0 : turB 12 0 25 = true := by kernel_rfl
theorem y15_32 : turB 15 32 6 = true := by kernel_rfl
theorem y19_22 : turB 19 22 7 = true := by kernel_rfl
theorem y20_28 : turB 20 28 5 = true := by kernel_rfl
theorem y24_34 : turB 24 34 3 = true := by kernel_rfl
theorem y25_38 : turB 25 38 2 = true := by kernel_rfl
theorem y26_24 : turB 26 24 4 = true := by kernel_rfl
theorem y26_28 : turB 26 28 4 = true := by kernel_rfl
theorem y28_17 : turB 28 17 6 = true := by kernel_rfl
theorem y30_40 : turB 30 40 1 = true := by kernel_rfl
end Go.Ev.Ytppjipfollgbcaa
