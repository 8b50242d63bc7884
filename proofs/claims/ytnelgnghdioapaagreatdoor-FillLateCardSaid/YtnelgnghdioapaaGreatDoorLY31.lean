/- What is run of FillLate, 31. -/
import Derived.Test.YtnelgnghdioapaaGreatDoorLY
import Derived.KernelRfl
namespace Go.Ev.YtnelgnghdioapaaGreatDoor
open Go Go.Ev
set_option maxRecDepth 100000
theorem h13:latQ (.int .i64 13) (.oth (.iv .i64 13 9223372036854775807))=true := by kernel_rfl
theorem l13_0:latQ (.int .i64 13) (.oth (.iv .i64 0 12))=true := by kernel_rfl
theorem h14:latQ (.int .i64 14) (.oth (.iv .i64 14 9223372036854775807))=true := by kernel_rfl
theorem l14_0:latQ (.int .i64 14) (.oth (.iv .i64 0 13))=true := by kernel_rfl
theorem h15:latQ (.int .i64 15) (.oth (.iv .i64 15 9223372036854775807))=true := by kernel_rfl
theorem l15_0:latQ (.int .i64 15) (.oth (.iv .i64 0 14))=true := by kernel_rfl
theorem h16:latQ (.int .i64 16) (.oth (.iv .i64 16 9223372036854775807))=true := by kernel_rfl
theorem l16_0:latQ (.int .i64 16) (.oth (.iv .i64 0 15))=true := by kernel_rfl
theorem h17:latQ (.int .i64 17) (.oth (.iv .i64 17 9223372036854775807))=true := by kernel_rfl
theorem l17_0:latQ (.int .i64 17) (.oth (.iv .i64 0 16))=true := by kernel_rfl
theorem h18:latQ (.int .i64 18) (.oth (.iv .i64 18 9223372036854775807))=true := by kernel_rfl
theorem l18_0:latQ (.int .i64 18) (.oth (.iv .i64 0 17))=true := by kernel_rfl
theorem h19:latQ (.int .i64 19) (.oth (.iv .i64 19 9223372036854775807))=true := by kernel_rfl
theorem l19_0:latQ (.int .i64 19) (.oth (.iv .i64 0 18))=true := by kernel_rfl
theorem h20:latQ (.int .i64 20) (.oth (.iv .i64 20 9223372036854775807))=true := by kernel_rfl
theorem l20_0:latQ (.int .i64 20) (.oth (.iv .i64 0 19))=true := by kernel_rfl
theorem h21:latQ (.int .i64 21) (.oth (.iv .i64 21 9223372036854775807))=true := by kernel_rfl
theorem l21_0:latQ (.int .i64 21) (.oth (.iv .i64 0 20))=true := by kernel_rfl
theorem h22:latQ (.int .i64 22) (.oth (.iv .i64 22 9223372036854775807))=true := by kernel_rfl
theorem l22_0:latQ (.int .i64 22) (.oth (.iv .i64 0 21))=true := by kernel_rfl
theorem h23:latQ (.int .i64 23) (.oth (.iv .i64 23 9223372036854775807))=true := by kernel_rfl
theorem l23_0:latQ (.int .i64 23) (.oth (.iv .i64 0 22))=true := by kernel_rfl
end Go.Ev.YtnelgnghdioapaaGreatDoor
