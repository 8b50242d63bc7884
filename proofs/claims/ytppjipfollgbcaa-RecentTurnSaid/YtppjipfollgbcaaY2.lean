/- What is run of RecentTurn, 2. -/
import Derived.Test.YtppjipfollgbcaaY
import Derived.KernelRfl
namespace Go.Ev.Ytppjipfollgbcaa
open Go Go.Ev
set_option maxRecDepth 100000
theorem y9_0 : turB 9 0 25 = true := by kernel_rfl
theorem y9_39 : turB 9 39 2 = true := by kernel_rfl
theorem y10_25 : turB 10 25 13 = true := by kernel_rfl
theorem y13_0 : turB 13 0 25 = true := by kernel_rfl
theorem y15_38 : turB 15 38 3 = true := by kernel_rfl
theorem y18_29 : turB 18 29 5 = true := by kernel_rfl
theorem y20_33 : turB 20 33 4 = true := by kernel_rfl
theorem y24_0 : turB 24 0 19 = true := by kernel_rfl
theorem y26_39 : turB 26 39 2 = true := by kernel_rfl
theorem y27_18 : turB 27 18 6 = true := by kernel_rfl
theorem y27_28 : turB 27 28 3 = true := by kernel_rfl
theorem y28_23 : turB 28 23 4 = true := by kernel_rfl
end Go.Ev.Ytppjipfollgbcaa
