/- What is run of TopOverwrite, 10. -/
import Derived.Test.YtijkeeoabcoidaaGreatDoorOW
import Derived.KernelRfl
namespace Go.Ev.YtijkeeoabcoidaaGreatDoor
open Go Go.Ev
set_option maxRecDepth 100000
theorem p7fttf : ptQ [false, true, true, false] gS7 gH7 gN7 = true := by kernel_rfl
theorem p8ftft : ptQ [false, true, false, true] gS8 gH8 gN8 = true := by kernel_rfl
theorem p9fftt : ptQ [false, false, true, true] gS9 gH9 gN9 = true := by kernel_rfl
theorem p10ffft : ptQ [false, false, false, true] gS10 gH10 gN10 = true := by kernel_rfl
theorem p12tttt : ptQ [true, true, true, true] gS12 gH12 gN12 = true := by kernel_rfl
theorem p13ttft : ptQ [true, true, false, true] gS13 gH13 gN13 = true := by kernel_rfl
theorem p14tftt : ptQ [true, false, true, true] gS14 gH14 gN14 = true := by kernel_rfl
theorem efft : (fun K => ptK [false, false, true] K) = fun K => br (true) (br (br (br (true) (true) false) (br (br (br (br (oL9 K) (true) false) (br (br (true) (oL9 K) false) (true) false) false) (true) false) (true) false) false) (true) false) false := by kernel_rfl
end Go.Ev.YtijkeeoabcoidaaGreatDoor
