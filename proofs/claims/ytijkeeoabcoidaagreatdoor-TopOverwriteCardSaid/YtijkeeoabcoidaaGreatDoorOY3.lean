/- What is run of TopOverwrite, 3. -/
import Derived.Test.YtijkeeoabcoidaaGreatDoorOW
import Derived.KernelRfl
namespace Go.Ev.YtijkeeoabcoidaaGreatDoor
open Go Go.Ev
set_option maxRecDepth 100000
theorem p7ttft : ptQ [true, true, false, true] gS7 gH7 gN7 = true := by kernel_rfl
theorem p8ttff : ptQ [true, true, false, false] gS8 gH8 gN8 = true := by kernel_rfl
theorem p9tftf : ptQ [true, false, true, false] gS9 gH9 gN9 = true := by kernel_rfl
theorem p10tfff : ptQ [true, false, false, false] gS10 gH10 gN10 = true := by kernel_rfl
theorem p11fttf : ptQ [false, true, true, false] gS11 gH11 gN11 = true := by kernel_rfl
theorem p12ftff : ptQ [false, true, false, false] gS12 gH12 gN12 = true := by kernel_rfl
theorem p13fftf : ptQ [false, false, true, false] gS13 gH13 gN13 = true := by kernel_rfl
theorem p14ffff : ptQ [false, false, false, false] gS14 gH14 gN14 = true := by kernel_rfl
end Go.Ev.YtijkeeoabcoidaaGreatDoor
