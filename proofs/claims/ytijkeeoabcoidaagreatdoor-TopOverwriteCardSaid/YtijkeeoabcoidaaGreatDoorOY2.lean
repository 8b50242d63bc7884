/- What is run of TopOverwrite, 2. -/
import Derived.Test.YtijkeeoabcoidaaGreatDoorOW
import Derived.KernelRfl
namespace Go.Ev.YtijkeeoabcoidaaGreatDoor
open Go Go.Ev
set_option maxRecDepth 100000
theorem p7tttf : ptQ [true, true, true, false] gS7 gH7 gN7 = true := by kernel_rfl
theorem p8ttft : ptQ [true, true, false, true] gS8 gH8 gN8 = true := by kernel_rfl
theorem p9tftt : ptQ [true, false, true, true] gS9 gH9 gN9 = true := by kernel_rfl
theorem p10tfft : ptQ [true, false, false, true] gS10 gH10 gN10 = true := by kernel_rfl
theorem p11fttt : ptQ [false, true, true, true] gS11 gH11 gN11 = true := by kernel_rfl
theorem p12ftft : ptQ [false, true, false, true] gS12 gH12 gN12 = true := by kernel_rfl
theorem p13fftt : ptQ [false, false, true, true] gS13 gH13 gN13 = true := by kernel_rfl
theorem p14ffft : ptQ [false, false, false, true] gS14 gH14 gN14 = true := by kernel_rfl
end Go.Ev.YtijkeeoabcoidaaGreatDoor
