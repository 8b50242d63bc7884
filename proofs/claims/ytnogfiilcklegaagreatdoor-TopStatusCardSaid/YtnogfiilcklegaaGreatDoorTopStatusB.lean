/- Runs. -/
import Derived.Test.YtnogfiilcklegaaGreatDoorT
namespace Go.Ev.YtnogfiilcklegaaGreatDoor
set_option maxRecDepth 100000
noncomputable abbrev rnB (a i : Nat) : Bool := rTrue (call2 tab 100 (fnKey 10) [.int .i64 (Nat.add a i)] hempty n00)
theorem run_400 : allN (rnB 400) 40 = true := by kernel_rfl
theorem run_440 : allN (rnB 440) 40 = true := by kernel_rfl
theorem run_480 : allN (rnB 480) 40 = true := by kernel_rfl
theorem run_520 : allN (rnB 520) 40 = true := by kernel_rfl
theorem run_560 : allN (rnB 560) 40 = true := by kernel_rfl
end Go.Ev.YtnogfiilcklegaaGreatDoor
