/- What is run of RecentTurn, 8. -/
import Derived.Test.YtppjipfollgbcaaY
import Derived.KernelRfl
namespace Go.Ev.Ytppjipfollgbcaa
open Go Go.Ev
set_option maxRecDepth 100000
theorem y3_0 : turB 3 0 25 = true := by kernel_rfl
theorem y9_25 : turB 9 25 14 = true := by kernel_rfl
theorem y17_35 : turB 17 35 4 = true := by kernel_rfl
theorem y17_39 : turB 17 39 2 = true := by kernel_rfl
theorem y22_27 : turB 22 27 5 = true := by kernel_rfl
theorem y22_35 : turB 22 35 3 = true := by kernel_rfl
theorem y23_19 : turB 23 19 7 = true := by kernel_rfl
theorem y25_0 : turB 25 0 18 = true := by kernel_rfl
theorem y25_18 : turB 25 18 7 = true := by kernel_rfl
theorem y26_35 : turB 26 35 2 = true := by kernel_rfl
theorem y28_27 : turB 28 27 3 = true := by kernel_rfl
theorem y29_27 : turB 29 27 3 = true := by kernel_rfl
end Go.Ev.Ytppjipfollgbcaa
