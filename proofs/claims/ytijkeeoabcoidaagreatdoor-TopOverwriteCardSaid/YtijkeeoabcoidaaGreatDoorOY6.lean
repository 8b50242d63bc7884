/- What is run of TopOverwrite, 6. -/
import Derived.Test.YtijkeeoabcoidaaGreatDoorOW
import Derived.KernelRfl
namespace Go.Ev.YtijkeeoabcoidaaGreatDoor
open Go Go.Ev
set_option maxRecDepth 100000
theorem p7tftf : ptQ [true, false, true, false] gS7 gH7 gN7 = true := by kernel_rfl
theorem p8tfft : ptQ [true, false, false, true] gS8 gH8 gN8 = true := by kernel_rfl
theorem p9fttt : ptQ [false, true, true, true] gS9 gH9 gN9 = true := by kernel_rfl
theorem p10ftft : ptQ [false, true, false, true] gS10 gH10 gN10 = true := by kernel_rfl
theorem p11fftt : ptQ [false, false, true, true] gS11 gH11 gN11 = true := by kernel_rfl
theorem p12ffft : ptQ [false, false, false, true] gS12 gH12 gN12 = true := by kernel_rfl
theorem p14tttt : ptQ [true, true, true, true] gS14 gH14 gN14 = true := by kernel_rfl
theorem etft : (fun K => ptK [true, false, true] K) = fun K => br (br (br (true) (true) false) (br (br (br (br (oL11 K) (true) false) (br (br (true) (oL11 K) false) (true) false) false) (true) false) (true) false) false) (br (true) (br (br (true) (true) false) (br (br (br (br (oL11 K) (true) false) (br (br (true) (oL11 K) false) (true) false) false) (true) false) (true) false) false) false) false := by kernel_rfl
end Go.Ev.YtijkeeoabcoidaaGreatDoor
