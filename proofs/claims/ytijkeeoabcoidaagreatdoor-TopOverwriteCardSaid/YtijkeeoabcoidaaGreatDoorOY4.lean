/- What is run of TopOverwrite, 4. -/
import Derived.Test.YtijkeeoabcoidaaGreatDoorOW
import Derived.KernelRfl
namespace Go.Ev.YtijkeeoabcoidaaGreatDoor
open Go Go.Ev
set_option maxRecDepth 100000
theorem p7ttff : ptQ [true, true, false, false] gS7 gH7 gN7 = true := by kernel_rfl
theorem p8tftt : ptQ [true, false, true, true] gS8 gH8 gN8 = true := by kernel_rfl
theorem p9tfft : ptQ [true, false, false, true] gS9 gH9 gN9 = true := by kernel_rfl
theorem p10fttt : ptQ [false, true, true, true] gS10 gH10 gN10 = true := by kernel_rfl
theorem p11ftft : ptQ [false, true, false, true] gS11 gH11 gN11 = true := by kernel_rfl
theorem p12fftt : ptQ [false, false, true, true] gS12 gH12 gN12 = true := by kernel_rfl
theorem p13ffft : ptQ [false, false, false, true] gS13 gH13 gN13 = true := by kernel_rfl
theorem ettt : (fun K => ptK [true, true, true] K) = fun K => br (br (br (br (br (oL7 K) (true) false) (br (br (true) (oL7 K) false) (true) false) false) (true) false) (br (br (true) (br (br (oL7 K) (true) false) (br (br (true) (oL7 K) false) (true) false) false) false) (true) false) false) (br (true) (br (br (br (br (oL7 K) (true) false) (br (br (true) (oL7 K) false) (true) false) false) (true) false) (br (br (true) (br (br (oL7 K) (true) false) (br (br (true) (oL7 K) false) (true) false) false) false) (true) false) false) false) false := by kernel_rfl
end Go.Ev.YtijkeeoabcoidaaGreatDoor
