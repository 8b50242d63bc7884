/- What is run of TopOverwrite, 12. -/
import Derived.Test.YtijkeeoabcoidaaGreatDoorOW
import Derived.KernelRfl
namespace Go.Ev.YtijkeeoabcoidaaGreatDoor
open Go Go.Ev
set_option maxRecDepth 100000
theorem p7ftff : ptQ [false, true, false, false] gS7 gH7 gN7 = true := by kernel_rfl
theorem p8fftt : ptQ [false, false, true, true] gS8 gH8 gN8 = true := by kernel_rfl
theorem p9ffft : ptQ [false, false, false, true] gS9 gH9 gN9 = true := by kernel_rfl
theorem p11tttt : ptQ [true, true, true, true] gS11 gH11 gN11 = true := by kernel_rfl
theorem p12ttft : ptQ [true, true, false, true] gS12 gH12 gN12 = true := by kernel_rfl
theorem p13tftt : ptQ [true, false, true, true] gS13 gH13 gN13 = true := by kernel_rfl
theorem p14tfft : ptQ [true, false, false, true] gS14 gH14 gN14 = true := by kernel_rfl
theorem s_A : (fun K => Gf (goS [.oth (.rs 36893488147419103240 129127208515966861312), .oth (.ro 0 0 9223372036854775807 1)] K)) = fun K => Gf (goB (K cfR gS0 gH0 gN0)) := by kernel_rfl
theorem s_B : (fun K => Gf (goS [.oth (.rs 36893488147419103240 129127208515966861312), .oth (.os 0 0)] K)) = fun K => Gf (goB (K cfR gS15 gH15 gN15)) := by kernel_rfl
end Go.Ev.YtijkeeoabcoidaaGreatDoor
