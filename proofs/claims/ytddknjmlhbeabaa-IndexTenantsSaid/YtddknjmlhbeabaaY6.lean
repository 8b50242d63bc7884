/- What is run of IndexTenants, 6. -/
import Derived.Test.YtddknjmlhbeabaaY
import Derived.KernelRfl
namespace Go.Ev.Ytddknjmlhbeabaa
open Go Go.Ev
set_option maxRecDepth 100000
theorem y0_8 : tenB 0 8 8 = true := by kernel_rfl
theorem y0_24 : tenB 0 24 7 = true := by kernel_rfl
theorem y1_16 : tenB 1 16 8 = true := by kernel_rfl
theorem y10_0 : tenB 10 0 8 = true := by kernel_rfl
theorem y10_16 : tenB 10 16 8 = true := by kernel_rfl
theorem y14_8 : tenB 14 8 8 = true := by kernel_rfl
theorem y14_24 : tenB 14 24 7 = true := by kernel_rfl
theorem y17_0 : tenB 17 0 8 = true := by kernel_rfl
theorem y19_16 : tenB 19 16 8 = true := by kernel_rfl
theorem y22_8 : tenB 22 8 8 = true := by kernel_rfl
theorem y24_16 : tenB 24 16 8 = true := by kernel_rfl
theorem y25_24 : tenB 25 24 7 = true := by kernel_rfl
theorem y26_0 : tenB 26 0 8 = true := by kernel_rfl
theorem y28_16 : tenB 28 16 8 = true := by kernel_rfl
theorem y29_0 : tenB 29 0 8 = true := by kernel_rfl
end Go.Ev.Ytddknjmlhbeabaa
