/- What is run of IndexTenants, 7. -/
import Derived.Test.YtddknjmlhbeabaaY
import Derived.KernelRfl
namespace Go.Ev.Ytddknjmlhbeabaa
open Go Go.Ev
set_option maxRecDepth 100000
theorem y2_0 : tenB 2 0 8 = true := by kernel_rfl
theorem y5_0 : tenB 5 0 8 = true := by kernel_rfl
theorem y5_8 : tenB 5 8 8 = true := by kernel_rfl
theorem y6_8 : tenB 6 8 8 = true := by kernel_rfl
theorem y8_16 : tenB 8 16 8 = true := by kernel_rfl
theorem y8_24 : tenB 8 24 7 = true := by kernel_rfl
theorem y11_8 : tenB 11 8 8 = true := by kernel_rfl
theorem y12_8 : tenB 12 8 8 = true := by kernel_rfl
theorem y14_16 : tenB 14 16 8 = true := by kernel_rfl
theorem y19_24 : tenB 19 24 7 = true := by kernel_rfl
theorem y20_16 : tenB 20 16 8 = true := by kernel_rfl
theorem y24_0 : tenB 24 0 8 = true := by kernel_rfl
theorem y24_24 : tenB 24 24 7 = true := by kernel_rfl
theorem y26_8 : tenB 26 8 8 = true := by kernel_rfl
theorem y27_0 : tenB 27 0 8 = true := by kernel_rfl
theorem y29_16 : tenB 29 16 8 = true := by kernel_rfl
end Go.Ev.Ytddknjmlhbeabaa
