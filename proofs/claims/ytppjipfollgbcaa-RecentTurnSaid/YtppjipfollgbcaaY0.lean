/- What is run of RecentTurn, 0. -/
import Derived.Test.YtppjipfollgbcaaY
import Derived.KernelRfl
namespace Go.Ev.Ytppjipfollgbcaa
open Go Go.Ev
set_option maxRecDepth 100000
theorem y1_25 : turB 1 25 16 = true := by kernel_rfl
theorem y4_25 : turB 4 25 16 = true := by kernel_rfl
theorem y13_34 : turB 13 34 7 = true := by kernel_rfl
theorem y16_36 : turB 16 36 4 = true := by kernel_rfl
theorem y17_23 : turB 17 23 7 = true := by kernel_rfl
theorem y21_0 : turB 21 0 20 = true := by kernel_rfl
theorem y21_20 : turB 21 20 7 = true := by kernel_rfl
theorem y22_20 : turB 22 20 7 = true := by kernel_rfl
theorem y22_32 : turB 22 32 3 = true := by kernel_rfl
theorem y24_30 : turB 24 30 4 = true := by kernel_rfl
theorem y27_34 : turB 27 34 2 = true := by kernel_rfl
theorem y30_22 : turB 30 22 4 = true := by kernel_rfl
end Go.Ev.Ytppjipfollgbcaa
