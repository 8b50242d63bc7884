/- What is run of TopOverwrite, 5. -/
import Derived.Test.YtijkeeoabcoidaaGreatDoorOW
import Derived.KernelRfl
namespace Go.Ev.YtijkeeoabcoidaaGreatDoor
open Go Go.Ev
set_option maxRecDepth 100000
theorem p7tftt : ptQ [true, false, true, true] gS7 gH7 gN7 = true := by kernel_rfl
theorem p8tftf : ptQ [true, false, true, false] gS8 gH8 gN8 = true := by kernel_rfl
theorem p9tfff : ptQ [true, false, false, false] gS9 gH9 gN9 = true := by kernel_rfl
theorem p10fttf : ptQ [false, true, true, false] gS10 gH10 gN10 = true := by kernel_rfl
theorem p11ftff : ptQ [false, true, false, false] gS11 gH11 gN11 = true := by kernel_rfl
theorem p12fftf : ptQ [false, false, true, false] gS12 gH12 gN12 = true := by kernel_rfl
theorem p13ffff : ptQ [false, false, false, false] gS13 gH13 gN13 = true := by kernel_rfl
theorem ettf : (fun K => ptK [true, true, false] K) = fun K => br (br (br (br (br (true) (true) false) (br (br (oL8 K) (true) false) (true) false) false) (true) false) (br (br (true) (br (br (true) (true) false) (br (br (oL8 K) (true) false) (true) false) false) false) (true) false) false) (br (true) (br (br (br (br (true) (true) false) (br (br (oL8 K) (true) false) (true) false) false) (true) false) (br (br (true) (br (br (true) (true) false) (br (br (oL8 K) (true) false) (true) false) false) false) (true) false) false) false) false := by kernel_rfl
end Go.Ev.YtijkeeoabcoidaaGreatDoor
