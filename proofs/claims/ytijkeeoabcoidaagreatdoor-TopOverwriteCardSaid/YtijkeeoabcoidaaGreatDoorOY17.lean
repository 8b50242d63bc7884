/- What is run of TopOverwrite, 17. -/
import Derived.Test.YtijkeeoabcoidaaGreatDoorOW
import Derived.KernelRfl
namespace Go.Ev.YtijkeeoabcoidaaGreatDoor
open Go Go.Ev
set_option maxRecDepth 100000
theorem p8tttt : ptQ [true, true, true, true] gS8 gH8 gN8 = true := by kernel_rfl
theorem p9tttf : ptQ [true, true, true, false] gS9 gH9 gN9 = true := by kernel_rfl
theorem p10ttff : ptQ [true, true, false, false] gS10 gH10 gN10 = true := by kernel_rfl
theorem p11tftf : ptQ [true, false, true, false] gS11 gH11 gN11 = true := by kernel_rfl
theorem p12tfff : ptQ [true, false, false, false] gS12 gH12 gN12 = true := by kernel_rfl
theorem p13fttf : ptQ [false, true, true, false] gS13 gH13 gN13 = true := by kernel_rfl
theorem p14ftff : ptQ [false, true, false, false] gS14 gH14 gN14 = true := by kernel_rfl
end Go.Ev.YtijkeeoabcoidaaGreatDoor
