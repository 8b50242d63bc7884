/- What is run of TopFull, 3. -/
import Derived.Test.YtnacbbemgocmcaaGreatDoorQT
import Derived.KernelRfl
namespace Go.Ev.YtnacbbemgocmcaaGreatDoor
open Go Go.Ev
set_option maxRecDepth 100000
theorem run_3:Kw (Bw tab 100 (B2 4) [.oth (.rs 36893488147419105232 14222439680830064296515)] AS KP)=true := by kernel_rfl
theorem run_7:Kw (Bw tab 100 (B2 4) [.oth (.rs 36893488147419105232 36875041403345393681735)] AS KP)=true := by kernel_rfl
end Go.Ev.YtnacbbemgocmcaaGreatDoor
