/- What is run of IndexTenants, 3. -/
import Derived.Test.YtddknjmlhbeabaaY
import Derived.KernelRfl
namespace Go.Ev.Ytddknjmlhbeabaa
open Go Go.Ev
set_option maxRecDepth 100000
theorem y1_8 : tenB 1 8 8 = true := by kernel_rfl
theorem y2_8 : tenB 2 8 8 = true := by kernel_rfl
theorem y4_24 : tenB 4 24 7 = true := by kernel_rfl
theorem y5_24 : tenB 5 24 7 = true := by kernel_rfl
theorem y7_16 : tenB 7 16 8 = true := by kernel_rfl
theorem y10_8 : tenB 10 8 8 = true := by kernel_rfl
theorem y13_8 : tenB 13 8 8 = true := by kernel_rfl
theorem y16_0 : tenB 16 0 8 = true := by kernel_rfl
theorem y18_24 : tenB 18 24 7 = true := by kernel_rfl
theorem y21_8 : tenB 21 8 8 = true := by kernel_rfl
theorem y21_16 : tenB 21 16 8 = true := by kernel_rfl
theorem y22_24 : tenB 22 24 7 = true := by kernel_rfl
theorem y23_8 : tenB 23 8 8 = true := by kernel_rfl
theorem y25_8 : tenB 25 8 8 = true := by kernel_rfl
theorem y27_24 : tenB 27 24 7 = true := by kernel_rfl
end Go.Ev.Ytddknjmlhbeabaa
