/- What is run of IndexTenants, 0. -/
import Derived.Test.YtddknjmlhbeabaaY
import Derived.KernelRfl
namespace Go.Ev.Ytddknjmlhbeabaa
open Go Go.Ev
set_option maxRecDepth 100000
theorem y0_16 : tenB 0 16 8 = true := by kernel_rfl
theorem y3_8 : tenB 3 8 8 = true := by kernel_rfl
theorem y6_16 : tenB 6 16 8 = true := by kernel_rfl
theorem y9_0 : tenB 9 0 8 = true := by kernel_rfl
theorem y9_8 : tenB 9 8 8 = true := by kernel_rfl
theorem y11_16 : tenB 11 16 8 = true := by kernel_rfl
theorem y13_16 : tenB 13 16 8 = true := by kernel_rfl
theorem y15_16 : tenB 15 16 8 = true := by kernel_rfl
theorem y15_24 : tenB 15 24 7 = true := by kernel_rfl
theorem y17_16 : tenB 17 16 8 = true := by kernel_rfl
theorem y17_24 : tenB 17 24 7 = true := by kernel_rfl
theorem y22_0 : tenB 22 0 8 = true := by kernel_rfl
theorem y25_0 : tenB 25 0 8 = true := by kernel_rfl
theorem y25_16 : tenB 25 16 8 = true := by kernel_rfl
theorem y30_24 : tenB 30 24 7 = true := by kernel_rfl
end Go.Ev.Ytddknjmlhbeabaa
