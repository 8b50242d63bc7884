/- What is run of IndexTenants: a number, some other numbers. -/
import Derived.Test.YtddknjmlhbeabaaT
import Derived.KernelRfl
namespace Go.Ev.Ytddknjmlhbeabaa
open Go Go.Ev
set_option maxRecDepth 100000
noncomputable def tenQ (n m : V) : Bool := rTrue (call2 tab 100 (fnKey 5) [n, m] hempty n00)
noncomputable def tenB (n s k : Nat) : Bool := allN (fun j => forceN (Nat.add s j) fun p => tenQ (.int .i64 n) (.int .i64 p)) k
theorem ten_at {n s k : Nat} (h : tenB n s k = true) (p : Nat) (h1 : s ≤ p) (h2 : p < s + k) : tenQ (.int .i64 n) (.int .i64 p) = true := by
  have := allN_at h (p - s) (by omega)
  rw [forceN_eq] at this
  rw [show p = Nat.add s (p - s) by show p = s + (p - s); omega]
  exact this
end Go.Ev.Ytddknjmlhbeabaa
