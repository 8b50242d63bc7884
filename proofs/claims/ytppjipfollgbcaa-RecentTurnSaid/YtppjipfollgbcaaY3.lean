/- What is run of RecentTurn, 3. -/
import Derived.Test.YtppjipfollgbcaaY
import Derived.KernelRfl
namespace Go.Ev.Ytppjipfollgbcaa
open Go Go.Ev
set_option maxRecDepth 100000
theorem y2_25 : turB 2 25 16 = true := by kernel_rfl
theorem y11_0 : turB 11 0 25 = true := by kernel_rfl
theorem y12_35 : turB 12 35 6 = true := by kernel_rfl
theorem y14_25 : turB 14 25 8 = true := by kernel_rfl
theorem y16_31 : turB 16 31 5 = true := by kernel_rfl
theorem y19_34 : turB 19 34 4 = true := by kernel_rfl
theorem y23_0 : turB 23 0 19 = true := by kernel_rfl
theorem y24_19 : turB 24 19 7 = true := by kernel_rfl
theorem y25_40 : turB 25 40 1 = true := by kernel_rfl
theorem y26_18 : turB 26 18 6 = true := by kernel_rfl
theorem y29_17 : turB 29 17 6 = true := by kernel_rfl
theorem y29_33 : turB 29 33 2 = true := by kernel_rfl
end Go.Ev.Ytppjipfollgbcaa
