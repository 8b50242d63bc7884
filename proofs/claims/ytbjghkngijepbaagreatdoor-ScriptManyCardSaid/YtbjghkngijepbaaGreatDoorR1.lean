/- What is run of ScriptMany, 1. -/
import Derived.Test.YtbjghkngijepbaaGreatDoorSBT
import Derived.KernelRfl
namespace Go.Ev.YtbjghkngijepbaaGreatDoor
open Go Go.Ev
set_option maxRecDepth 100000
theorem run_4:HJ (fun i => E4 (C7 tab 100 (B8 4) [.int .i64 (Nat.add 4 i)] AM Ko)) 1=true := by kernel_rfl
theorem run_5:HJ (fun i => E4 (C7 tab 100 (B8 4) [.int .i64 (Nat.add 5 i)] AM Ko)) 1=true := by kernel_rfl
theorem run_10:HJ (fun i => E4 (C7 tab 100 (B8 4) [.int .i64 (Nat.add 10 i)] AM Ko)) 1=true := by kernel_rfl
end Go.Ev.YtbjghkngijepbaaGreatDoor
