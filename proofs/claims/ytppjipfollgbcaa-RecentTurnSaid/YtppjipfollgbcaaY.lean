/- What is run of RecentTurn: a number, some rounds. -/
import Derived.Test.YtppjipfollgbcaaT
import Derived.KernelRfl
namespace Go.Ev.Ytppjipfollgbcaa
open Go Go.Ev
set_option maxRecDepth 100000
noncomputable def turQ (n m : V) : Bool := rTrue (call2 tab 100 (fnKey 4) [n, m] hempty n00)
noncomputable def turB (n s k : Nat) : Bool := allN (fun j => forceN (Nat.add s j) fun p => turQ (.int .i64 n) (.int .i64 p)) k
theorem tur_at {n s k : Nat} (h : turB n s k = true) (p : Nat) (h1 : s ≤ p) (h2 : p < s + k) : turQ (.int .i64 n) (.int .i64 p) = true := by
  have := allN_at h (p - s) (by omega)
  rw [forceN_eq] at this
  rw [show p = Nat.add s (p - s) by show p = s + (p - s); omega]
  exact this
end Go.Ev.Ytppjipfollgbcaa
