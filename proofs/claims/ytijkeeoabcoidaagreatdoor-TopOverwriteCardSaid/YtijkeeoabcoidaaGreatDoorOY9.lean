/- What is run of TopOverwrite, 9. -/
import Derived.Test.YtijkeeoabcoidaaGreatDoorOW
import Derived.KernelRfl
namespace Go.Ev.YtijkeeoabcoidaaGreatDoor
open Go Go.Ev
set_option maxRecDepth 100000
theorem p7fttt : ptQ [false, true, true, true] gS7 gH7 gN7 = true := by kernel_rfl
theorem p8fttf : ptQ [false, true, true, false] gS8 gH8 gN8 = true := by kernel_rfl
theorem p9ftff : ptQ [false, true, false, false] gS9 gH9 gN9 = true := by kernel_rfl
theorem p10fftf : ptQ [false, false, true, false] gS10 gH10 gN10 = true := by kernel_rfl
theorem p11ffff : ptQ [false, false, false, false] gS11 gH11 gN11 = true := by kernel_rfl
theorem p13tttf : ptQ [true, true, true, false] gS13 gH13 gN13 = true := by kernel_rfl
theorem p14ttff : ptQ [true, true, false, false] gS14 gH14 gN14 = true := by kernel_rfl
theorem eftf : (fun K => ptK [false, true, false] K) = fun K => br (true) (br (br (br (br (br (true) (true) false) (br (br (oL14 K) (true) false) (true) false) false) (true) false) (br (br (true) (br (br (true) (true) false) (br (br (oL14 K) (true) false) (true) false) false) false) (true) false) false) (true) false) false := by kernel_rfl
end Go.Ev.YtijkeeoabcoidaaGreatDoor
