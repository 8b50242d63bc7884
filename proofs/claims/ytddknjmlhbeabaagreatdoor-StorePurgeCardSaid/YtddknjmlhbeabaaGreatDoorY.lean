/- What is run of StorePurge: a number, two bools. -/
import Derived.Test.YtddknjmlhbeabaaGreatDoorT
import Derived.KernelRfl
namespace Go.Ev.YtddknjmlhbeabaaGreatDoor
open Go Go.Ev
set_option maxRecDepth 100000
noncomputable def purQ (n c d : V) : Bool := rTrue (call2 tab 100 (fnKey 4) [n, c, d] hempty n00)
end Go.Ev.YtddknjmlhbeabaaGreatDoor
