/- What is run of StorePurge, 6. -/
import Derived.Test.YtddknjmlhbeabaaGreatDoorY
import Derived.KernelRfl
namespace Go.Ev.YtddknjmlhbeabaaGreatDoor
open Go Go.Ev
set_option maxRecDepth 100000
theorem y0_true_false : purQ (.int .i64 0) (.bool true) (.bool false) = true := by kernel_rfl
theorem y3_true_false : purQ (.int .i64 3) (.bool true) (.bool false) = true := by kernel_rfl
theorem y5_true_false : purQ (.int .i64 5) (.bool true) (.bool false) = true := by kernel_rfl
theorem y6_true_false : purQ (.int .i64 6) (.bool true) (.bool false) = true := by kernel_rfl
theorem y8_true_false : purQ (.int .i64 8) (.bool true) (.bool false) = true := by kernel_rfl
theorem y11_true_false : purQ (.int .i64 11) (.bool true) (.bool false) = true := by kernel_rfl
theorem y13_true_false : purQ (.int .i64 13) (.bool true) (.bool false) = true := by kernel_rfl
theorem y14_true_false : purQ (.int .i64 14) (.bool true) (.bool false) = true := by kernel_rfl
end Go.Ev.YtddknjmlhbeabaaGreatDoor
