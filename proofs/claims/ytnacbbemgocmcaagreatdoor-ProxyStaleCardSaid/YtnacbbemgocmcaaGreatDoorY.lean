/- What is run of ProxyStale: a life, some waits. -/
import Derived.Test.YtnacbbemgocmcaaGreatDoorT
import Derived.KernelRfl
namespace Go.Ev.YtnacbbemgocmcaaGreatDoor
open Go Go.Ev
set_option maxRecDepth 100000
noncomputable def staQ (n p : V) : Bool := rTrue (call2 tab 100 (fnKey 3) [n, p] hempty n00)
noncomputable def staB (n s k : Nat) : Bool := allN (fun j => forceN (Nat.add s j) fun p => staQ (.int .i64 n) (.int .i64 p)) k
theorem sta_at {n s k : Nat} (h : staB n s k = true) (p : Nat) (h1 : s ≤ p) (h2 : p < s + k) : staQ (.int .i64 n) (.int .i64 p) = true := by
  have := allN_at h (p - s) (by omega)
  rw [forceN_eq] at this
  rw [show p = Nat.add s (p - s) by show p = s + (p - s); omega]
  exact this
theorem sta_all {n : Nat} (a0 : staB n 0 7 = true) (a7 : staB n 7 7 = true) (a14 : staB n 14 7 = true) (a21 : staB n 21 7 = true) (a28 : staB n 28 7 = true) (a35 : staB n 35 7 = true) (a42 : staB n 42 7 = true) (a49 : staB n 49 7 = true) (a56 : staB n 56 5 = true) (p : Nat) (h : p < 61) : staQ (.int .i64 n) (.int .i64 p) = true := by
  by_cases c0 : p < 7
  · exact sta_at a0 p (by omega) (by omega)
  by_cases c7 : p < 14
  · exact sta_at a7 p (by omega) (by omega)
  by_cases c14 : p < 21
  · exact sta_at a14 p (by omega) (by omega)
  by_cases c21 : p < 28
  · exact sta_at a21 p (by omega) (by omega)
  by_cases c28 : p < 35
  · exact sta_at a28 p (by omega) (by omega)
  by_cases c35 : p < 42
  · exact sta_at a35 p (by omega) (by omega)
  by_cases c42 : p < 49
  · exact sta_at a42 p (by omega) (by omega)
  by_cases c49 : p < 56
  · exact sta_at a49 p (by omega) (by omega)
  exact sta_at a56 p (by omega) (by omega)
end Go.Ev.YtnacbbemgocmcaaGreatDoor
