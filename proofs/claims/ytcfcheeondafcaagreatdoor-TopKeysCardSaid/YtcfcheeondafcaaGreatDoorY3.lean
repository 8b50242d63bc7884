/- What is run of TopKeys, 3. -/
import Derived.Test.YtcfcheeondafcaaGreatDoorY
import Derived.KernelRfl
namespace Go.Ev.YtcfcheeondafcaaGreatDoor
open Go Go.Ev
set_option maxRecDepth 100000
theorem y0_3 : keyQ 0 3 = true := by kernel_rfl
theorem y0_7 : keyQ 0 7 = true := by kernel_rfl
theorem y1_1 : keyQ 1 1 = true := by kernel_rfl
theorem y1_5 : keyQ 1 5 = true := by kernel_rfl
theorem y1_9 : keyQ 1 9 = true := by kernel_rfl
theorem y2_3 : keyQ 2 3 = true := by kernel_rfl
theorem y2_7 : keyQ 2 7 = true := by kernel_rfl
theorem y3_1 : keyQ 3 1 = true := by kernel_rfl
theorem y3_5 : keyQ 3 5 = true := by kernel_rfl
theorem y3_9 : keyQ 3 9 = true := by kernel_rfl
theorem y4_3 : keyQ 4 3 = true := by kernel_rfl
theorem y4_7 : keyQ 4 7 = true := by kernel_rfl
theorem y5_1 : keyQ 5 1 = true := by kernel_rfl
theorem y5_5 : keyQ 5 5 = true := by kernel_rfl
theorem y5_9 : keyQ 5 9 = true := by kernel_rfl
theorem y6_3 : keyQ 6 3 = true := by kernel_rfl
theorem y6_7 : keyQ 6 7 = true := by kernel_rfl
theorem y7_1 : keyQ 7 1 = true := by kernel_rfl
theorem y7_5 : keyQ 7 5 = true := by kernel_rfl
theorem y7_9 : keyQ 7 9 = true := by kernel_rfl
theorem y8_3 : keyQ 8 3 = true := by kernel_rfl
theorem y8_7 : keyQ 8 7 = true := by kernel_rfl
theorem y9_1 : keyQ 9 1 = true := by kernel_rfl
theorem y9_5 : keyQ 9 5 = true := by kernel_rfl
theorem y9_9 : keyQ 9 9 = true := by kernel_rfl
end Go.Ev.YtcfcheeondafcaaGreatDoor
