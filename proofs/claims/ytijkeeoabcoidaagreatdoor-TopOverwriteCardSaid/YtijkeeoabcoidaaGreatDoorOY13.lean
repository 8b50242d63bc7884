/- What is run of TopOverwrite, 13. -/
import Derived.Test.YtijkeeoabcoidaaGreatDoorOW
import Derived.KernelRfl
namespace Go.Ev.YtijkeeoabcoidaaGreatDoor
open Go Go.Ev
set_option maxRecDepth 100000
theorem p7fftt : ptQ [false, false, true, true] gS7 gH7 gN7 = true := by kernel_rfl
theorem p8fftf : ptQ [false, false, true, false] gS8 gH8 gN8 = true := by kernel_rfl
theorem p9ffff : ptQ [false, false, false, false] gS9 gH9 gN9 = true := by kernel_rfl
theorem p11tttf : ptQ [true, true, true, false] gS11 gH11 gN11 = true := by kernel_rfl
theorem p12ttff : ptQ [true, true, false, false] gS12 gH12 gN12 = true := by kernel_rfl
theorem p13tftf : ptQ [true, false, true, false] gS13 gH13 gN13 = true := by kernel_rfl
theorem p14tfff : ptQ [true, false, false, false] gS14 gH14 gN14 = true := by kernel_rfl
end Go.Ev.YtijkeeoabcoidaaGreatDoor
