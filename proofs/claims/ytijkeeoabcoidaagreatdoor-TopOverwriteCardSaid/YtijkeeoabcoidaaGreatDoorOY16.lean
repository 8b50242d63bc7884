/- What is run of TopOverwrite, 16. -/
import Derived.Test.YtijkeeoabcoidaaGreatDoorOW
import Derived.KernelRfl
namespace Go.Ev.YtijkeeoabcoidaaGreatDoor
open Go Go.Ev
set_option maxRecDepth 100000
theorem p7ffff : ptQ [false, false, false, false] gS7 gH7 gN7 = true := by kernel_rfl
theorem p9tttt : ptQ [true, true, true, true] gS9 gH9 gN9 = true := by kernel_rfl
theorem p10ttft : ptQ [true, true, false, true] gS10 gH10 gN10 = true := by kernel_rfl
theorem p11tftt : ptQ [true, false, true, true] gS11 gH11 gN11 = true := by kernel_rfl
theorem p12tfft : ptQ [true, false, false, true] gS12 gH12 gN12 = true := by kernel_rfl
theorem p13fttt : ptQ [false, true, true, true] gS13 gH13 gN13 = true := by kernel_rfl
theorem p14ftft : ptQ [false, true, false, true] gS14 gH14 gN14 = true := by kernel_rfl
end Go.Ev.YtijkeeoabcoidaaGreatDoor
