/- What is run of RecentTurn, 6. -/
import Derived.Test.YtppjipfollgbcaaY
import Derived.KernelRfl
namespace Go.Ev.Ytppjipfollgbcaa
open Go Go.Ev
set_option maxRecDepth 100000
theorem y5_25 : turB 5 25 16 = true := by kernel_rfl
theorem y8_0 : turB 8 0 25 = true := by kernel_rfl
theorem y10_38 : turB 10 38 3 = true := by kernel_rfl
theorem y17_0 : turB 17 0 23 = true := by kernel_rfl
theorem y18_0 : turB 18 0 22 = true := by kernel_rfl
theorem y20_37 : turB 20 37 3 = true := by kernel_rfl
theorem y21_27 : turB 21 27 5 = true := by kernel_rfl
theorem y21_36 : turB 21 36 3 = true := by kernel_rfl
theorem y23_37 : turB 23 37 3 = true := by kernel_rfl
theorem y29_35 : turB 29 35 2 = true := by kernel_rfl
theorem y30_16 : turB 30 16 6 = true := by kernel_rfl
theorem y30_26 : turB 30 26 3 = true := by kernel_rfl
end Go.Ev.Ytppjipfollgbcaa
