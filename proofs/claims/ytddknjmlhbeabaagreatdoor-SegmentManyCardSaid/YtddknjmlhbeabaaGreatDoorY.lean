/- What is run of SegmentMany: a number, some sizes of groups. -/
import Derived.Test.YtddknjmlhbeabaaGreatDoorT
import Derived.KernelRfl
namespace Go.Ev.YtddknjmlhbeabaaGreatDoor
open Go Go.Ev
set_option maxRecDepth 100000
noncomputable def segQ (n p : V) : Bool := rTrue (call2 tab 100 (fnKey 3) [n, p] hempty n00)
noncomputable def segB (n s k : Nat) : Bool := allN (fun j => forceN (Nat.add s j) fun p => segQ (.int .i64 n) (.int .i64 p)) k
theorem seg_at {n s k : Nat} (h : segB n s k = true) (p : Nat) (h1 : s ≤ p) (h2 : p < s + k) : segQ (.int .i64 n) (.int .i64 p) = true := by
  have := allN_at h (p - s) (by omega)
  rw [forceN_eq] at this
  rw [show p = Nat.add s (p - s) by show p = s + (p - s); omega]
  exact this
end Go.Ev.YtddknjmlhbeabaaGreatDoor
