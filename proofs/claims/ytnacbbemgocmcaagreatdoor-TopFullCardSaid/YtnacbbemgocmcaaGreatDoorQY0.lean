/- What is run of TopFull, 0. -/
import Derived.Test.YtnacbbemgocmcaaGreatDoorQT
import Derived.KernelRfl
namespace Go.Ev.YtnacbbemgocmcaaGreatDoor
open Go Go.Ev
set_option maxRecDepth 100000
theorem run_0:Kw (Bw tab 100 (B2 4) [.oth (.rs 36893488147419105232 3541774862152233910272)] AS KP)=true := by kernel_rfl
theorem run_4:Kw (Bw tab 100 (B2 4) [.oth (.rs 36893488147419105232 17782661287056007758596)] AS KP)=true := by kernel_rfl
end Go.Ev.YtnacbbemgocmcaaGreatDoor
