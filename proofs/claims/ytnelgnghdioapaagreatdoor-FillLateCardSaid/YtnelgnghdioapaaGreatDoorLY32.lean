/- What is run of FillLate, 32. -/
import Derived.Test.YtnelgnghdioapaaGreatDoorLY
import Derived.KernelRfl
namespace Go.Ev.YtnelgnghdioapaaGreatDoor
open Go Go.Ev
set_option maxRecDepth 100000
theorem h24:latQ (.int .i64 24) (.oth (.iv .i64 24 9223372036854775807))=true := by kernel_rfl
theorem l24_0:latQ (.int .i64 24) (.oth (.iv .i64 0 23))=true := by kernel_rfl
theorem h25:latQ (.int .i64 25) (.oth (.iv .i64 25 9223372036854775807))=true := by kernel_rfl
theorem l25_0:latQ (.int .i64 25) (.oth (.iv .i64 0 24))=true := by kernel_rfl
theorem h26:latQ (.int .i64 26) (.oth (.iv .i64 26 9223372036854775807))=true := by kernel_rfl
theorem l26_0:latQ (.int .i64 26) (.oth (.iv .i64 0 25))=true := by kernel_rfl
theorem h27:latQ (.int .i64 27) (.oth (.iv .i64 27 9223372036854775807))=true := by kernel_rfl
theorem l27_0:latQ (.int .i64 27) (.oth (.iv .i64 0 26))=true := by kernel_rfl
theorem h28:latQ (.int .i64 28) (.oth (.iv .i64 28 9223372036854775807))=true := by kernel_rfl
theorem l28_0:latQ (.int .i64 28) (.oth (.iv .i64 0 27))=true := by kernel_rfl
theorem h29:latQ (.int .i64 29) (.oth (.iv .i64 29 9223372036854775807))=true := by kernel_rfl
theorem l29_0:latQ (.int .i64 29) (.oth (.iv .i64 0 28))=true := by kernel_rfl
theorem h30:latQ (.int .i64 30) (.oth (.iv .i64 30 9223372036854775807))=true := by kernel_rfl
theorem l30_0:latQ (.int .i64 30) (.oth (.iv .i64 0 29))=true := by kernel_rfl
theorem h31:latQ (.int .i64 31) (.oth (.iv .i64 31 9223372036854775807))=true := by kernel_rfl
theorem l31_0:latQ (.int .i64 31) (.oth (.iv .i64 0 30))=true := by kernel_rfl
theorem h32:latQ (.int .i64 32) (.oth (.iv .i64 32 9223372036854775807))=true := by kernel_rfl
theorem l32_0:latQ (.int .i64 32) (.oth (.iv .i64 0 31))=true := by kernel_rfl
theorem h33:latQ (.int .i64 33) (.oth (.iv .i64 33 9223372036854775807))=true := by kernel_rfl
theorem l33_0:latQ (.int .i64 33) (.oth (.iv .i64 0 32))=true := by kernel_rfl
theorem h34:latQ (.int .i64 34) (.oth (.iv .i64 34 9223372036854775807))=true := by kernel_rfl
theorem l34_0:latQ (.int .i64 34) (.oth (.iv .i64 0 33))=true := by kernel_rfl
end Go.Ev.YtnelgnghdioapaaGreatDoor
