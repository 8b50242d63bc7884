/- What is run of TopOverwrite, 11. -/
import Derived.Test.YtijkeeoabcoidaaGreatDoorOW
import Derived.KernelRfl
namespace Go.Ev.YtijkeeoabcoidaaGreatDoor
open Go Go.Ev
set_option maxRecDepth 100000
theorem p7ftft : ptQ [false, true, false, true] gS7 gH7 gN7 = true := by kernel_rfl
theorem p8ftff : ptQ [false, true, false, false] gS8 gH8 gN8 = true := by kernel_rfl
theorem p9fftf : ptQ [false, false, true, false] gS9 gH9 gN9 = true := by kernel_rfl
theorem p10ffff : ptQ [false, false, false, false] gS10 gH10 gN10 = true := by kernel_rfl
theorem p12tttf : ptQ [true, true, true, false] gS12 gH12 gN12 = true := by kernel_rfl
theorem p13ttff : ptQ [true, true, false, false] gS13 gH13 gN13 = true := by kernel_rfl
theorem p14tftf : ptQ [true, false, true, false] gS14 gH14 gN14 = true := by kernel_rfl
theorem efff : (fun K => ptK [false, false, false] K) = fun K => br (true) (br (br (br (true) (true) false) (br (br (br (br (true) (true) false) (br (br (oL10 K) (true) false) (true) false) false) (true) false) (true) false) false) (true) false) false := by kernel_rfl
end Go.Ev.YtijkeeoabcoidaaGreatDoor
