/- Runs. -/
import Derived.Test.YtnogfiilcklegaaGreatDoorT
namespace Go.Ev.YtnogfiilcklegaaGreatDoor
set_option maxRecDepth 100000
noncomputable abbrev rnA (a i : Nat) : Bool := rTrue (call2 tab 100 (fnKey 10) [.int .i64 (Nat.add a i)] hempty n00)
theorem run_200 : allN (rnA 200) 40 = true := by kernel_rfl
theorem run_240 : allN (rnA 240) 40 = true := by kernel_rfl
theorem run_280 : allN (rnA 280) 40 = true := by kernel_rfl
theorem run_320 : allN (rnA 320) 40 = true := by kernel_rfl
theorem run_360 : allN (rnA 360) 40 = true := by kernel_rfl
end Go.Ev.YtnogfiilcklegaaGreatDoor
