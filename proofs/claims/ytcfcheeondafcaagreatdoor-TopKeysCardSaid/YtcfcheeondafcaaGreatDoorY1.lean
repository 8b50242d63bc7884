/- What is run of TopKeys, 1. -/
import Derived.Test.YtcfcheeondafcaaGreatDoorY
import Derived.KernelRfl
namespace Go.Ev.YtcfcheeondafcaaGreatDoor
open Go Go.Ev
set_option maxRecDepth 100000
theorem y0_1 : keyQ 0 1 = true := by kernel_rfl
theorem y0_5 : keyQ 0 5 = true := by kernel_rfl
theorem y0_9 : keyQ 0 9 = true := by kernel_rfl
theorem y1_3 : keyQ 1 3 = true := by kernel_rfl
theorem y1_7 : keyQ 1 7 = true := by kernel_rfl
theorem y2_1 : keyQ 2 1 = true := by kernel_rfl
theorem y2_5 : keyQ 2 5 = true := by kernel_rfl
theorem y2_9 : keyQ 2 9 = true := by kernel_rfl
theorem y3_3 : keyQ 3 3 = true := by kernel_rfl
theorem y3_7 : keyQ 3 7 = true := by kernel_rfl
theorem y4_1 : keyQ 4 1 = true := by kernel_rfl
theorem y4_5 : keyQ 4 5 = true := by kernel_rfl
theorem y4_9 : keyQ 4 9 = true := by kernel_rfl
theorem y5_3 : keyQ 5 3 = true := by kernel_rfl
theorem y5_7 : keyQ 5 7 = true := by kernel_rfl
theorem y6_1 : keyQ 6 1 = true := by kernel_rfl
theorem y6_5 : keyQ 6 5 = true := by kernel_rfl
theorem y6_9 : keyQ 6 9 = true := by kernel_rfl
theorem y7_3 : keyQ 7 3 = true := by kernel_rfl
theorem y7_7 : keyQ 7 7 = true := by kernel_rfl
theorem y8_1 : keyQ 8 1 = true := by kernel_rfl
theorem y8_5 : keyQ 8 5 = true := by kernel_rfl
theorem y8_9 : keyQ 8 9 = true := by kernel_rfl
theorem y9_3 : keyQ 9 3 = true := by kernel_rfl
theorem y9_7 : keyQ 9 7 = true := by kernel_rfl
end Go.Ev.YtcfcheeondafcaaGreatDoor
