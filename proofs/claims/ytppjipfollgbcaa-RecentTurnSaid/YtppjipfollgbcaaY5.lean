/- What is run of RecentTurn, 5. -/
import Derived.Test.YtppjipfollgbcaaY
import Derived.KernelRfl
namespace Go.Ev.Ytppjipfollgbcaa
open Go Go.Ev
set_option maxRecDepth 100000
theorem y4_0 : turB 4 0 25 = true := by kernel_rfl
theorem y12_25 : turB 12 25 10 = true := by kernel_rfl
theorem y16_0 : turB 16 0 23 = true := by kernel_rfl
theorem y19_29 : turB 19 29 5 = true := by kernel_rfl
theorem y24_26 : turB 24 26 4 = true := by kernel_rfl
theorem y24_37 : turB 24 37 2 = true := by kernel_rfl
theorem y26_37 : turB 26 37 2 = true := by kernel_rfl
theorem y27_0 : turB 27 0 18 = true := by kernel_rfl
theorem y27_31 : turB 27 31 3 = true := by kernel_rfl
theorem y27_40 : turB 27 40 1 = true := by kernel_rfl
theorem y29_37 : turB 29 37 2 = true := by kernel_rfl
theorem y30_38 : turB 30 38 2 = true := by kernel_rfl
end Go.Ev.Ytppjipfollgbcaa
