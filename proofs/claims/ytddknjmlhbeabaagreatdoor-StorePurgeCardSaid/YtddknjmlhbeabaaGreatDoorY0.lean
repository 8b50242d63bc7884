/- What is run of StorePurge, 0. -/
import Derived.Test.YtddknjmlhbeabaaGreatDoorY
import Derived.KernelRfl
namespace Go.Ev.YtddknjmlhbeabaaGreatDoor
open Go Go.Ev
set_option maxRecDepth 100000
theorem y1_false_false : purQ (.int .i64 1) (.bool false) (.bool false) = true := by kernel_rfl
theorem y2_false_false : purQ (.int .i64 2) (.bool false) (.bool false) = true := by kernel_rfl
theorem y4_false_false : purQ (.int .i64 4) (.bool false) (.bool false) = true := by kernel_rfl
theorem y7_false_false : purQ (.int .i64 7) (.bool false) (.bool false) = true := by kernel_rfl
theorem y9_false_false : purQ (.int .i64 9) (.bool false) (.bool false) = true := by kernel_rfl
theorem y10_false_false : purQ (.int .i64 10) (.bool false) (.bool false) = true := by kernel_rfl
theorem y12_false_false : purQ (.int .i64 12) (.bool false) (.bool false) = true := by kernel_rfl
theorem y15_false_false : purQ (.int .i64 15) (.bool false) (.bool false) = true := by kernel_rfl
end Go.Ev.YtddknjmlhbeabaaGreatDoor
