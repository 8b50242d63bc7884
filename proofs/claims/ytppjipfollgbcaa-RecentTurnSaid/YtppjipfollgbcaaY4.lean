/- What is run of RecentTurn, 4. -/
import Derived.Test.YtppjipfollgbcaaY
import Derived.KernelRfl
namespace Go.Ev.Ytppjipfollgbcaa
open Go Go.Ev
set_option maxRecDepth 100000
theorem y3_25 : turB 3 25 16 = true := by kernel_rfl
theorem y17_30 : turB 17 30 5 = true := by kernel_rfl
theorem y18_22 : turB 18 22 7 = true := by kernel_rfl
theorem y18_34 : turB 18 34 4 = true := by kernel_rfl
theorem y20_0 : turB 20 0 21 = true := by kernel_rfl
theorem y22_38 : turB 22 38 3 = true := by kernel_rfl
theorem y23_40 : turB 23 40 1 = true := by kernel_rfl
theorem y25_25 : turB 25 25 4 = true := by kernel_rfl
theorem y27_36 : turB 27 36 2 = true := by kernel_rfl
theorem y29_0 : turB 29 0 17 = true := by kernel_rfl
theorem y29_23 : turB 29 23 4 = true := by kernel_rfl
theorem y30_32 : turB 30 32 2 = true := by kernel_rfl
end Go.Ev.Ytppjipfollgbcaa
