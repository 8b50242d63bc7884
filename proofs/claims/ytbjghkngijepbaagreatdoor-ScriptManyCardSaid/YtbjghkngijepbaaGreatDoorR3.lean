/- What is run of ScriptMany, 3. -/
import Derived.Test.YtbjghkngijepbaaGreatDoorSBT
import Derived.KernelRfl
namespace Go.Ev.YtbjghkngijepbaaGreatDoor
open Go Go.Ev
set_option maxRecDepth 100000
theorem run_7:HJ (fun i => E4 (C7 tab 100 (B8 4) [.int .i64 (Nat.add 7 i)] AM Ko)) 1=true := by kernel_rfl
theorem run_8:HJ (fun i => E4 (C7 tab 100 (B8 4) [.int .i64 (Nat.add 8 i)] AM Ko)) 1=true := by kernel_rfl
end Go.Ev.YtbjghkngijepbaaGreatDoor
