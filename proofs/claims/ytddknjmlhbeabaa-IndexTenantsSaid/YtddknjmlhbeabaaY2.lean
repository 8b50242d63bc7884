/- What is run of IndexTenants, 2. -/
import Derived.Test.YtddknjmlhbeabaaY
import Derived.KernelRfl
namespace Go.Ev.Ytddknjmlhbeabaa
open Go Go.Ev
set_option maxRecDepth 100000
theorem y0_0 : tenB 0 0 8 = true := by kernel_rfl
theorem y4_8 : tenB 4 8 8 = true := by kernel_rfl
theorem y7_0 : tenB 7 0 8 = true := by kernel_rfl
theorem y7_8 : tenB 7 8 8 = true := by kernel_rfl
theorem y7_24 : tenB 7 24 7 = true := by kernel_rfl
theorem y15_8 : tenB 15 8 8 = true := by kernel_rfl
theorem y16_8 : tenB 16 8 8 = true := by kernel_rfl
theorem y16_16 : tenB 16 16 8 = true := by kernel_rfl
theorem y18_0 : tenB 18 0 8 = true := by kernel_rfl
theorem y21_0 : tenB 21 0 8 = true := by kernel_rfl
theorem y22_16 : tenB 22 16 8 = true := by kernel_rfl
theorem y24_8 : tenB 24 8 8 = true := by kernel_rfl
theorem y26_16 : tenB 26 16 8 = true := by kernel_rfl
theorem y28_0 : tenB 28 0 8 = true := by kernel_rfl
theorem y28_24 : tenB 28 24 7 = true := by kernel_rfl
theorem y29_8 : tenB 29 8 8 = true := by kernel_rfl
end Go.Ev.Ytddknjmlhbeabaa
