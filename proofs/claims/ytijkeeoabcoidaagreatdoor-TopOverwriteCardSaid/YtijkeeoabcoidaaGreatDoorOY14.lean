/- What is run of TopOverwrite, 14. -/
import Derived.Test.YtijkeeoabcoidaaGreatDoorOW
import Derived.KernelRfl
namespace Go.Ev.YtijkeeoabcoidaaGreatDoor
open Go Go.Ev
set_option maxRecDepth 100000
theorem p7fftf : ptQ [false, false, true, false] gS7 gH7 gN7 = true := by kernel_rfl
theorem p8ffft : ptQ [false, false, false, true] gS8 gH8 gN8 = true := by kernel_rfl
theorem p10tttt : ptQ [true, true, true, true] gS10 gH10 gN10 = true := by kernel_rfl
theorem p11ttft : ptQ [true, true, false, true] gS11 gH11 gN11 = true := by kernel_rfl
theorem p12tftt : ptQ [true, false, true, true] gS12 gH12 gN12 = true := by kernel_rfl
theorem p13tfft : ptQ [true, false, false, true] gS13 gH13 gN13 = true := by kernel_rfl
theorem p14fttt : ptQ [false, true, true, true] gS14 gH14 gN14 = true := by kernel_rfl
end Go.Ev.YtijkeeoabcoidaaGreatDoor
