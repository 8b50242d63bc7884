/- What is run of IndexTenants, 1. -/
import Derived.Test.YtddknjmlhbeabaaY
import Derived.KernelRfl
namespace Go.Ev.Ytddknjmlhbeabaa
open Go Go.Ev
set_option maxRecDepth 100000
theorem y1_24 : tenB 1 24 7 = true := by kernel_rfl
theorem y2_16 : tenB 2 16 8 = true := by kernel_rfl
theorem y5_16 : tenB 5 16 8 = true := by kernel_rfl
theorem y6_24 : tenB 6 24 7 = true := by kernel_rfl
theorem y8_0 : tenB 8 0 8 = true := by kernel_rfl
theorem y8_8 : tenB 8 8 8 = true := by kernel_rfl
theorem y10_24 : tenB 10 24 7 = true := by kernel_rfl
theorem y11_0 : tenB 11 0 8 = true := by kernel_rfl
theorem y12_16 : tenB 12 16 8 = true := by kernel_rfl
theorem y13_24 : tenB 13 24 7 = true := by kernel_rfl
theorem y17_8 : tenB 17 8 8 = true := by kernel_rfl
theorem y21_24 : tenB 21 24 7 = true := by kernel_rfl
theorem y28_8 : tenB 28 8 8 = true := by kernel_rfl
theorem y29_24 : tenB 29 24 7 = true := by kernel_rfl
theorem y30_8 : tenB 30 8 8 = true := by kernel_rfl
end Go.Ev.Ytddknjmlhbeabaa
