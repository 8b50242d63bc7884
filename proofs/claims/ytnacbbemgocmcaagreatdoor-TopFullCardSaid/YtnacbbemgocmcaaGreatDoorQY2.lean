/- What is run of TopFull, 2. -/
import Derived.Test.YtnacbbemgocmcaaGreatDoorQT
import Derived.KernelRfl
namespace Go.Ev.YtnacbbemgocmcaaGreatDoor
open Go Go.Ev
set_option maxRecDepth 100000
theorem run_2:Kw (Bw tab 100 (B2 4) [.oth (.rs 36893488147419105232 10662218074604120834434)] AS KP)=true := by kernel_rfl
theorem run_6:Kw (Bw tab 100 (B2 4) [.oth (.rs 36893488147419105232 24903104499507894682758)] AS KP)=true := by kernel_rfl
end Go.Ev.YtnacbbemgocmcaaGreatDoor
