/- What is run of TopOverwrite, 15. -/
import Derived.Test.YtijkeeoabcoidaaGreatDoorOW
import Derived.KernelRfl
namespace Go.Ev.YtijkeeoabcoidaaGreatDoor
open Go Go.Ev
set_option maxRecDepth 100000
theorem p7ffft : ptQ [false, false, false, true] gS7 gH7 gN7 = true := by kernel_rfl
theorem p8ffff : ptQ [false, false, false, false] gS8 gH8 gN8 = true := by kernel_rfl
theorem p10tttf : ptQ [true, true, true, false] gS10 gH10 gN10 = true := by kernel_rfl
theorem p11ttff : ptQ [true, true, false, false] gS11 gH11 gN11 = true := by kernel_rfl
theorem p12tftf : ptQ [true, false, true, false] gS12 gH12 gN12 = true := by kernel_rfl
theorem p13tfff : ptQ [true, false, false, false] gS13 gH13 gN13 = true := by kernel_rfl
theorem p14fttf : ptQ [false, true, true, false] gS14 gH14 gN14 = true := by kernel_rfl
end Go.Ev.YtijkeeoabcoidaaGreatDoor
