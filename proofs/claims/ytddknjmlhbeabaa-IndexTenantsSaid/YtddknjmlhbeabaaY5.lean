/- What is run of IndexTenants, 5. -/
import Derived.Test.YtddknjmlhbeabaaY
import Derived.KernelRfl
namespace Go.Ev.Ytddknjmlhbeabaa
open Go Go.Ev
set_option maxRecDepth 100000
theorem y1_0 : tenB 1 0 8 = true := by kernel_rfl
theorem y2_24 : tenB 2 24 7 = true := by kernel_rfl
theorem y3_16 : tenB 3 16 8 = true := by kernel_rfl
theorem y3_24 : tenB 3 24 7 = true := by kernel_rfl
theorem y4_16 : tenB 4 16 8 = true := by kernel_rfl
theorem y6_0 : tenB 6 0 8 = true := by kernel_rfl
theorem y11_24 : tenB 11 24 7 = true := by kernel_rfl
theorem y12_0 : tenB 12 0 8 = true := by kernel_rfl
theorem y12_24 : tenB 12 24 7 = true := by kernel_rfl
theorem y15_0 : tenB 15 0 8 = true := by kernel_rfl
theorem y16_24 : tenB 16 24 7 = true := by kernel_rfl
theorem y19_8 : tenB 19 8 8 = true := by kernel_rfl
theorem y20_8 : tenB 20 8 8 = true := by kernel_rfl
theorem y23_16 : tenB 23 16 8 = true := by kernel_rfl
theorem y23_24 : tenB 23 24 7 = true := by kernel_rfl
theorem y26_24 : tenB 26 24 7 = true := by kernel_rfl
end Go.Ev.Ytddknjmlhbeabaa
