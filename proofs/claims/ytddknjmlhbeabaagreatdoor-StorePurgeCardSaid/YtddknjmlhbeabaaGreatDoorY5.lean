/- What is run of StorePurge, 5. -/
import Derived.Test.YtddknjmlhbeabaaGreatDoorY
import Derived.KernelRfl
namespace Go.Ev.YtddknjmlhbeabaaGreatDoor
open Go Go.Ev
set_option maxRecDepth 100000
theorem y0_false_true : purQ (.int .i64 0) (.bool false) (.bool true) = true := by kernel_rfl
theorem y3_false_true : purQ (.int .i64 3) (.bool false) (.bool true) = true := by kernel_rfl
theorem y5_false_true : purQ (.int .i64 5) (.bool false) (.bool true) = true := by kernel_rfl
theorem y6_false_true : purQ (.int .i64 6) (.bool false) (.bool true) = true := by kernel_rfl
theorem y8_false_true : purQ (.int .i64 8) (.bool false) (.bool true) = true := by kernel_rfl
theorem y11_false_true : purQ (.int .i64 11) (.bool false) (.bool true) = true := by kernel_rfl
theorem y13_false_true : purQ (.int .i64 13) (.bool false) (.bool true) = true := by kernel_rfl
theorem y14_false_true : purQ (.int .i64 14) (.bool false) (.bool true) = true := by kernel_rfl
end Go.Ev.YtddknjmlhbeabaaGreatDoor
