/- What is run of RecentTurn, 7. -/
import Derived.Test.YtppjipfollgbcaaY
import Derived.KernelRfl
namespace Go.Ev.Ytppjipfollgbcaa
open Go Go.Ev
set_option maxRecDepth 100000
theorem y6_0 : turB 6 0 25 = true := by kernel_rfl
theorem y13_25 : turB 13 25 9 = true := by kernel_rfl
theorem y14_33 : turB 14 33 6 = true := by kernel_rfl
theorem y20_40 : turB 20 40 1 = true := by kernel_rfl
theorem y23_31 : turB 23 31 3 = true := by kernel_rfl
theorem y25_29 : turB 25 29 4 = true := by kernel_rfl
theorem y25_33 : turB 25 33 3 = true := by kernel_rfl
theorem y25_36 : turB 25 36 2 = true := by kernel_rfl
theorem y26_0 : turB 26 0 18 = true := by kernel_rfl
theorem y27_24 : turB 27 24 4 = true := by kernel_rfl
theorem y27_38 : turB 27 38 2 = true := by kernel_rfl
theorem y28_0 : turB 28 0 17 = true := by kernel_rfl
end Go.Ev.Ytppjipfollgbcaa
