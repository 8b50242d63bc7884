/- What is run of TopFull, 1. -/
import Derived.Test.YtnacbbemgocmcaaGreatDoorQT
import Derived.KernelRfl
namespace Go.Ev.YtnacbbemgocmcaaGreatDoor
open Go Go.Ev
set_option maxRecDepth 100000
theorem run_1:Kw (Bw tab 100 (B2 4) [.oth (.rs 36893488147419105232 7101996468378177372353)] AS KP)=true := by kernel_rfl
theorem run_5:Kw (Bw tab 100 (B2 4) [.oth (.rs 36893488147419105232 21342882893281951220677)] AS KP)=true := by kernel_rfl
end Go.Ev.YtnacbbemgocmcaaGreatDoor
