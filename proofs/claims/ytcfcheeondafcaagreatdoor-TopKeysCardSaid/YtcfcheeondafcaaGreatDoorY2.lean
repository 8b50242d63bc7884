/- What is run of TopKeys, 2. -/
import Derived.Test.YtcfcheeondafcaaGreatDoorY
import Derived.KernelRfl
namespace Go.Ev.YtcfcheeondafcaaGreatDoor
open Go Go.Ev
set_option maxRecDepth 100000
theorem y0_2 : keyQ 0 2 = true := by kernel_rfl
theorem y0_6 : keyQ 0 6 = true := by kernel_rfl
theorem y1_0 : keyQ 1 0 = true := by kernel_rfl
theorem y1_4 : keyQ 1 4 = true := by kernel_rfl
theorem y1_8 : keyQ 1 8 = true := by kernel_rfl
theorem y2_2 : keyQ 2 2 = true := by kernel_rfl
theorem y2_6 : keyQ 2 6 = true := by kernel_rfl
theorem y3_0 : keyQ 3 0 = true := by kernel_rfl
theorem y3_4 : keyQ 3 4 = true := by kernel_rfl
theorem y3_8 : keyQ 3 8 = true := by kernel_rfl
theorem y4_2 : keyQ 4 2 = true := by kernel_rfl
theorem y4_6 : keyQ 4 6 = true := by kernel_rfl
theorem y5_0 : keyQ 5 0 = true := by kernel_rfl
theorem y5_4 : keyQ 5 4 = true := by kernel_rfl
theorem y5_8 : keyQ 5 8 = true := by kernel_rfl
theorem y6_2 : keyQ 6 2 = true := by kernel_rfl
theorem y6_6 : keyQ 6 6 = true := by kernel_rfl
theorem y7_0 : keyQ 7 0 = true := by kernel_rfl
theorem y7_4 : keyQ 7 4 = true := by kernel_rfl
theorem y7_8 : keyQ 7 8 = true := by kernel_rfl
theorem y8_2 : keyQ 8 2 = true := by kernel_rfl
theorem y8_6 : keyQ 8 6 = true := by kernel_rfl
theorem y9_0 : keyQ 9 0 = true := by kernel_rfl
theorem y9_4 : keyQ 9 4 = true := by kernel_rfl
theorem y9_8 : keyQ 9 8 = true := by kernel_rfl
end Go.Ev.YtcfcheeondafcaaGreatDoor
