/- What is run of TopOverwrite, 7. -/
import Derived.Test.YtijkeeoabcoidaaGreatDoorOW
import Derived.KernelRfl
namespace Go.Ev.YtijkeeoabcoidaaGreatDoor
open Go Go.Ev
set_option maxRecDepth 100000
theorem p7tfft : ptQ [true, false, false, true] gS7 gH7 gN7 = true := by kernel_rfl
theorem p8tfff : ptQ [true, false, false, false] gS8 gH8 gN8 = true := by kernel_rfl
theorem p9fttf : ptQ [false, true, true, false] gS9 gH9 gN9 = true := by kernel_rfl
theorem p10ftff : ptQ [false, true, false, false] gS10 gH10 gN10 = true := by kernel_rfl
theorem p11fftf : ptQ [false, false, true, false] gS11 gH11 gN11 = true := by kernel_rfl
theorem p12ffff : ptQ [false, false, false, false] gS12 gH12 gN12 = true := by kernel_rfl
theorem p14tttf : ptQ [true, true, true, false] gS14 gH14 gN14 = true := by kernel_rfl
theorem etff : (fun K => ptK [true, false, false] K) = fun K => br (br (br (true) (true) false) (br (br (br (br (true) (true) false) (br (br (oL12 K) (true) false) (true) false) false) (true) false) (true) false) false) (br (true) (br (br (true) (true) false) (br (br (br (br (true) (true) false) (br (br (oL12 K) (true) false) (true) false) false) (true) false) (true) false) false) false) false := by kernel_rfl
end Go.Ev.YtijkeeoabcoidaaGreatDoor
