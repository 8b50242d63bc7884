/- What is run of IndexTenants, 4. -/
import Derived.Test.YtddknjmlhbeabaaY
import Derived.KernelRfl
namespace Go.Ev.Ytddknjmlhbeabaa
open Go Go.Ev
set_option maxRecDepth 100000
theorem y3_0 : tenB 3 0 8 = true := by kernel_rfl
theorem y4_0 : tenB 4 0 8 = true := by kernel_rfl
theorem y9_16 : tenB 9 16 8 = true := by kernel_rfl
theorem y9_24 : tenB 9 24 7 = true := by kernel_rfl
theorem y13_0 : tenB 13 0 8 = true := by kernel_rfl
theorem y14_0 : tenB 14 0 8 = true := by kernel_rfl
theorem y18_8 : tenB 18 8 8 = true := by kernel_rfl
theorem y18_16 : tenB 18 16 8 = true := by kernel_rfl
theorem y19_0 : tenB 19 0 8 = true := by kernel_rfl
theorem y20_0 : tenB 20 0 8 = true := by kernel_rfl
theorem y20_24 : tenB 20 24 7 = true := by kernel_rfl
theorem y23_0 : tenB 23 0 8 = true := by kernel_rfl
theorem y27_8 : tenB 27 8 8 = true := by kernel_rfl
theorem y27_16 : tenB 27 16 8 = true := by kernel_rfl
theorem y30_0 : tenB 30 0 8 = true := by kernel_rfl
theorem y30_16 : tenB 30 16 8 = true := by kernel_rfl
end Go.Ev.Ytddknjmlhbeabaa
