/- What is run of TopKeys, 0. -/
import Derived.Test.YtcfcheeondafcaaGreatDoorY
import Derived.KernelRfl
namespace Go.Ev.YtcfcheeondafcaaGreatDoor
open Go Go.Ev
set_option maxRecDepth 100000
theorem y0_0 : keyQ 0 0 = true := by kernel_rfl
theorem y0_4 : keyQ 0 4 = true := by kernel_rfl
theorem y0_8 : keyQ 0 8 = true := by kernel_rfl
theorem y1_2 : keyQ 1 2 = true := by kernel_rfl
theorem y1_6 : keyQ 1 6 = true := by kernel_rfl
theorem y2_0 : keyQ 2 0 = true := by kernel_rfl
theorem y2_4 : keyQ 2 4 = true := by kernel_rfl
theorem y2_8 : keyQ 2 8 = true := by kernel_rfl
theorem y3_2 : keyQ 3 2 = true := by kernel_rfl
theorem y3_6 : keyQ 3 6 = true := by kernel_rfl
theorem y4_0 : keyQ 4 0 = true := by kernel_rfl
theorem y4_4 : keyQ 4 4 = true := by kernel_rfl
theorem y4_8 : keyQ 4 8 = true := by kernel_rfl
theorem y5_2 : keyQ 5 2 = true := by kernel_rfl
theorem y5_6 : keyQ 5 6 = true := by kernel_rfl
theorem y6_0 : keyQ 6 0 = true := by kernel_rfl
theorem y6_4 : keyQ 6 4 = true := by kernel_rfl
theorem y6_8 : keyQ 6 8 = true := by kernel_rfl
theorem y7_2 : keyQ 7 2 = true := by kernel_rfl
theorem y7_6 : keyQ 7 6 = true := by kernel_rfl
theorem y8_0 : keyQ 8 0 = true := by kernel_rfl
theorem y8_4 : keyQ 8 4 = true := by kernel_rfl
theorem y8_8 : keyQ 8 8 = true := by kernel_rfl
theorem y9_2 : keyQ 9 2 = true := by kernel_rfl
theorem y9_6 : keyQ 9 6 = true := by kernel_rfl
end Go.Ev.YtcfcheeondafcaaGreatDoor
