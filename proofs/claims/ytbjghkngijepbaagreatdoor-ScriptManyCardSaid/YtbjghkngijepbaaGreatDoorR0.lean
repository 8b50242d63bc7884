/- What is run of ScriptMany, 0. -/
import Derived.Test.YtbjghkngijepbaaGreatDoorSBT
import Derived.KernelRfl
namespace Go.Ev.YtbjghkngijepbaaGreatDoor
open Go Go.Ev
set_option maxRecDepth 100000
theorem run_0:HJ (fun i => E4 (C7 tab 100 (B8 4) [.int .i64 (Nat.add 0 i)] AM Ko)) 1=true := by kernel_rfl
theorem run_1:HJ (fun i => E4 (C7 tab 100 (B8 4) [.int .i64 (Nat.add 1 i)] AM Ko)) 1=true := by kernel_rfl
theorem run_2:HJ (fun i => E4 (C7 tab 100 (B8 4) [.int .i64 (Nat.add 2 i)] AM Ko)) 1=true := by kernel_rfl
theorem run_3:HJ (fun i => E4 (C7 tab 100 (B8 4) [.int .i64 (Nat.add 3 i)] AM Ko)) 1=true := by kernel_rfl
theorem run_hi:E4 (C7 tab 100 (B8 4) [.oth (.iv .i64 11 9223372036854775807)] AM Ko)=true := by kernel_rfl
theorem run_neg:E4 (C7 tab 100 (B8 4) [.oth (.iv .i64 9223372036854775808 18446744073709551615)] AM Ko)=true := by kernel_rfl
end Go.Ev.YtbjghkngijepbaaGreatDoor
