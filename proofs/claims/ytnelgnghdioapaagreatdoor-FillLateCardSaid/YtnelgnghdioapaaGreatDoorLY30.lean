/- What is run of FillLate, 30. -/
import Derived.Test.YtnelgnghdioapaaGreatDoorLY
import Derived.KernelRfl
namespace Go.Ev.YtnelgnghdioapaaGreatDoor
open Go Go.Ev
set_option maxRecDepth 100000
theorem h1:latQ (.int .i64 1) (.oth (.iv .i64 1 9223372036854775807))=true := by kernel_rfl
theorem l1_0:latQ (.int .i64 1) (.oth (.iv .i64 0 0))=true := by kernel_rfl
theorem h2:latQ (.int .i64 2) (.oth (.iv .i64 2 9223372036854775807))=true := by kernel_rfl
theorem l2_0:latQ (.int .i64 2) (.oth (.iv .i64 0 1))=true := by kernel_rfl
theorem h3:latQ (.int .i64 3) (.oth (.iv .i64 3 9223372036854775807))=true := by kernel_rfl
theorem l3_0:latQ (.int .i64 3) (.oth (.iv .i64 0 2))=true := by kernel_rfl
theorem h4:latQ (.int .i64 4) (.oth (.iv .i64 4 9223372036854775807))=true := by kernel_rfl
theorem l4_0:latQ (.int .i64 4) (.oth (.iv .i64 0 3))=true := by kernel_rfl
theorem h5:latQ (.int .i64 5) (.oth (.iv .i64 5 9223372036854775807))=true := by kernel_rfl
theorem l5_0:latQ (.int .i64 5) (.oth (.iv .i64 0 4))=true := by kernel_rfl
theorem h6:latQ (.int .i64 6) (.oth (.iv .i64 6 9223372036854775807))=true := by kernel_rfl
theorem l6_0:latQ (.int .i64 6) (.oth (.iv .i64 0 5))=true := by kernel_rfl
theorem h7:latQ (.int .i64 7) (.oth (.iv .i64 7 9223372036854775807))=true := by kernel_rfl
theorem l7_0:latQ (.int .i64 7) (.oth (.iv .i64 0 6))=true := by kernel_rfl
theorem h8:latQ (.int .i64 8) (.oth (.iv .i64 8 9223372036854775807))=true := by kernel_rfl
theorem l8_0:latQ (.int .i64 8) (.oth (.iv .i64 0 7))=true := by kernel_rfl
theorem h9:latQ (.int .i64 9) (.oth (.iv .i64 9 9223372036854775807))=true := by kernel_rfl
theorem l9_0:latQ (.int .i64 9) (.oth (.iv .i64 0 8))=true := by kernel_rfl
theorem h10:latQ (.int .i64 10) (.oth (.iv .i64 10 9223372036854775807))=true := by kernel_rfl
theorem l10_0:latQ (.int .i64 10) (.oth (.iv .i64 0 9))=true := by kernel_rfl
theorem h11:latQ (.int .i64 11) (.oth (.iv .i64 11 9223372036854775807))=true := by kernel_rfl
theorem l11_0:latQ (.int .i64 11) (.oth (.iv .i64 0 10))=true := by kernel_rfl
theorem h12:latQ (.int .i64 12) (.oth (.iv .i64 12 9223372036854775807))=true := by kernel_rfl
theorem l12_0:latQ (.int .i64 12) (.oth (.iv .i64 0 11))=true := by kernel_rfl
end Go.Ev.YtnelgnghdioapaaGreatDoor
