/- What is run of TopOverwrite, 0. -/
import Derived.Test.YtijkeeoabcoidaaGreatDoorOW
import Derived.KernelRfl
namespace Go.Ev.YtijkeeoabcoidaaGreatDoor
open Go Go.Ev
set_option maxRecDepth 100000
theorem kB : Gf (goB (goG 999999999 gS15 gH15 gN15)) = true := by kernel_rfl
theorem p9ttft : ptQ [true, true, false, true] gS9 gH9 gN9 = true := by kernel_rfl
theorem p10tftt : ptQ [true, false, true, true] gS10 gH10 gN10 = true := by kernel_rfl
theorem p11tfft : ptQ [true, false, false, true] gS11 gH11 gN11 = true := by kernel_rfl
theorem p12fttt : ptQ [false, true, true, true] gS12 gH12 gN12 = true := by kernel_rfl
theorem p13ftft : ptQ [false, true, false, true] gS13 gH13 gN13 = true := by kernel_rfl
theorem p14fftt : ptQ [false, false, true, true] gS14 gH14 gN14 = true := by kernel_rfl
end Go.Ev.YtijkeeoabcoidaaGreatDoor
