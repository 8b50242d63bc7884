/- What is run of StorePurge, 2. -/
import Derived.Test.YtddknjmlhbeabaaGreatDoorY
import Derived.KernelRfl
namespace Go.Ev.YtddknjmlhbeabaaGreatDoor
open Go Go.Ev
set_option maxRecDepth 100000
theorem y1_true_false : purQ (.int .i64 1) (.bool true) (.bool false) = true := by kernel_rfl
theorem y2_true_false : purQ (.int .i64 2) (.bool true) (.bool false) = true := by kernel_rfl
theorem y4_true_false : purQ (.int .i64 4) (.bool true) (.bool false) = true := by kernel_rfl
theorem y7_true_false : purQ (.int .i64 7) (.bool true) (.bool false) = true := by kernel_rfl
theorem y9_true_false : purQ (.int .i64 9) (.bool true) (.bool false) = true := by kernel_rfl
theorem y10_true_false : purQ (.int .i64 10) (.bool true) (.bool false) = true := by kernel_rfl
theorem y12_true_false : purQ (.int .i64 12) (.bool true) (.bool false) = true := by kernel_rfl
theorem y15_true_false : purQ (.int .i64 15) (.bool true) (.bool false) = true := by kernel_rfl
end Go.Ev.YtddknjmlhbeabaaGreatDoor
