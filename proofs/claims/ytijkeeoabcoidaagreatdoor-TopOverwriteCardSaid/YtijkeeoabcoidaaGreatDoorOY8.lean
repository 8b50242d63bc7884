/- What is run of TopOverwrite, 8. -/
import Derived.Test.YtijkeeoabcoidaaGreatDoorOW
import Derived.KernelRfl
namespace Go.Ev.YtijkeeoabcoidaaGreatDoor
open Go Go.Ev
set_option maxRecDepth 100000
theorem p7tfff : ptQ [true, false, false, false] gS7 gH7 gN7 = true := by kernel_rfl
theorem p8fttt : ptQ [false, true, true, true] gS8 gH8 gN8 = true := by kernel_rfl
theorem p9ftft : ptQ [false, true, false, true] gS9 gH9 gN9 = true := by kernel_rfl
theorem p10fftt : ptQ [false, false, true, true] gS10 gH10 gN10 = true := by kernel_rfl
theorem p11ffft : ptQ [false, false, false, true] gS11 gH11 gN11 = true := by kernel_rfl
theorem p13tttt : ptQ [true, true, true, true] gS13 gH13 gN13 = true := by kernel_rfl
theorem p14ttft : ptQ [true, true, false, true] gS14 gH14 gN14 = true := by kernel_rfl
theorem eftt : (fun K => ptK [false, true, true] K) = fun K => br (true) (br (br (br (br (br (oL13 K) (true) false) (br (br (true) (oL13 K) false) (true) false) false) (true) false) (br (br (true) (br (br (oL13 K) (true) false) (br (br (true) (oL13 K) false) (true) false) false) false) (true) false) false) (true) false) false := by kernel_rfl
end Go.Ev.YtijkeeoabcoidaaGreatDoor
