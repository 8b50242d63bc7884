/- What is run of TopKeys: two targets by their numbers. -/
import Derived.Test.YtcfcheeondafcaaGreatDoorT
import Derived.KernelRfl
namespace Go.Ev.YtcfcheeondafcaaGreatDoor
open Go Go.Ev
set_option maxRecDepth 100000
noncomputable def keyQ (i j : Nat) : Bool := rAll (call2 tab 100 (fnKey 3) [.oth (.rs 10 i), .oth (.rs 10 j)] hempty n00)
end Go.Ev.YtcfcheeondafcaaGreatDoor
