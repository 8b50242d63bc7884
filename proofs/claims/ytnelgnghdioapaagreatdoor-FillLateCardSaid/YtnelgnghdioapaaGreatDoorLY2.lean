/- What is run of FillLate, 2. -/
import Derived.Test.YtnelgnghdioapaaGreatDoorLY
import Derived.KernelRfl
namespace Go.Ev.YtnelgnghdioapaaGreatDoor
open Go Go.Ev
set_option maxRecDepth 100000
theorem h50:latQ (.int .i64 50) (.oth (.iv .i64 50 9223372036854775807))=true := by kernel_rfl
theorem l50_0:latQ (.int .i64 50) (.oth (.iv .i64 0 49))=true := by kernel_rfl
theorem h51:latQ (.int .i64 51) (.oth (.iv .i64 51 9223372036854775807))=true := by kernel_rfl
theorem l51_0:latQ (.int .i64 51) (.oth (.iv .i64 0 49))=true := by kernel_rfl
theorem l51_50:latQ (.int .i64 51) (.oth (.iv .i64 50 50))=true := by kernel_rfl
theorem h52:latQ (.int .i64 52) (.oth (.iv .i64 52 9223372036854775807))=true := by kernel_rfl
theorem l52_0:latQ (.int .i64 52) (.oth (.iv .i64 0 49))=true := by kernel_rfl
theorem l52_50:latQ (.int .i64 52) (.oth (.iv .i64 50 51))=true := by kernel_rfl
theorem h53:latQ (.int .i64 53) (.oth (.iv .i64 53 9223372036854775807))=true := by kernel_rfl
theorem l53_0:latQ (.int .i64 53) (.oth (.iv .i64 0 49))=true := by kernel_rfl
theorem l53_50:latQ (.int .i64 53) (.oth (.iv .i64 50 52))=true := by kernel_rfl
theorem h54:latQ (.int .i64 54) (.oth (.iv .i64 54 9223372036854775807))=true := by kernel_rfl
theorem l54_0:latQ (.int .i64 54) (.oth (.iv .i64 0 49))=true := by kernel_rfl
theorem l54_50:latQ (.int .i64 54) (.oth (.iv .i64 50 53))=true := by kernel_rfl
theorem h55:latQ (.int .i64 55) (.oth (.iv .i64 55 9223372036854775807))=true := by kernel_rfl
theorem l55_0:latQ (.int .i64 55) (.oth (.iv .i64 0 49))=true := by kernel_rfl
theorem l55_50:latQ (.int .i64 55) (.oth (.iv .i64 50 54))=true := by kernel_rfl
theorem h56:latQ (.int .i64 56) (.oth (.iv .i64 56 9223372036854775807))=true := by kernel_rfl
theorem l56_0:latQ (.int .i64 56) (.oth (.iv .i64 0 49))=true := by kernel_rfl
theorem l56_50:latQ (.int .i64 56) (.oth (.iv .i64 50 55))=true := by kernel_rfl
theorem h57:latQ (.int .i64 57) (.oth (.iv .i64 57 9223372036854775807))=true := by kernel_rfl
theorem l57_0:latQ (.int .i64 57) (.oth (.iv .i64 0 49))=true := by kernel_rfl
theorem l57_50:latQ (.int .i64 57) (.oth (.iv .i64 50 56))=true := by kernel_rfl
theorem h58:latQ (.int .i64 58) (.oth (.iv .i64 58 9223372036854775807))=true := by kernel_rfl
theorem l58_0:latQ (.int .i64 58) (.oth (.iv .i64 0 49))=true := by kernel_rfl
theorem l58_50:latQ (.int .i64 58) (.oth (.iv .i64 50 57))=true := by kernel_rfl
theorem h59:latQ (.int .i64 59) (.oth (.iv .i64 59 9223372036854775807))=true := by kernel_rfl
theorem l59_0:latQ (.int .i64 59) (.oth (.iv .i64 0 49))=true := by kernel_rfl
theorem l59_50:latQ (.int .i64 59) (.oth (.iv .i64 50 58))=true := by kernel_rfl
theorem h60:latQ (.int .i64 60) (.oth (.iv .i64 60 9223372036854775807))=true := by kernel_rfl
theorem l60_0:latQ (.int .i64 60) (.oth (.iv .i64 0 49))=true := by kernel_rfl
theorem l60_50:latQ (.int .i64 60) (.oth (.iv .i64 50 59))=true := by kernel_rfl
theorem h61:latQ (.int .i64 61) (.oth (.iv .i64 61 9223372036854775807))=true := by kernel_rfl
theorem l61_0:latQ (.int .i64 61) (.oth (.iv .i64 0 49))=true := by kernel_rfl
theorem l61_50:latQ (.int .i64 61) (.oth (.iv .i64 50 60))=true := by kernel_rfl
theorem hi2 (n:Nat) (h1:50≤n) (h2:n<62):latQ (.int .i64 n) (.oth (.iv .i64 n 9223372036854775807))=true := by
  by_cases e50:n=50
  · subst e50; exact h50
  by_cases e51:n=51
  · subst e51; exact h51
  by_cases e52:n=52
  · subst e52; exact h52
  by_cases e53:n=53
  · subst e53; exact h53
  by_cases e54:n=54
  · subst e54; exact h54
  by_cases e55:n=55
  · subst e55; exact h55
  by_cases e56:n=56
  · subst e56; exact h56
  by_cases e57:n=57
  · subst e57; exact h57
  by_cases e58:n=58
  · subst e58; exact h58
  by_cases e59:n=59
  · subst e59; exact h59
  by_cases e60:n=60
  · subst e60; exact h60
  by_cases e61:n=61
  · subst e61; exact h61
  exact absurd h2 (by omega)
theorem late2 (n p:Nat) (h1:50≤n) (h2:n<62) (h:p<n):LatOK n p := by
  by_cases e50:n=50
  · subst e50
    exact ⟨_, _, by omega, by omega, by decide, l50_0⟩
  by_cases e51:n=51
  · subst e51
    by_cases c0:p<50
    · exact ⟨_, _, by omega, by omega, by decide, l51_0⟩
    exact ⟨_, _, by omega, by omega, by decide, l51_50⟩
  by_cases e52:n=52
  · subst e52
    by_cases c0:p<50
    · exact ⟨_, _, by omega, by omega, by decide, l52_0⟩
    exact ⟨_, _, by omega, by omega, by decide, l52_50⟩
  by_cases e53:n=53
  · subst e53
    by_cases c0:p<50
    · exact ⟨_, _, by omega, by omega, by decide, l53_0⟩
    exact ⟨_, _, by omega, by omega, by decide, l53_50⟩
  by_cases e54:n=54
  · subst e54
    by_cases c0:p<50
    · exact ⟨_, _, by omega, by omega, by decide, l54_0⟩
    exact ⟨_, _, by omega, by omega, by decide, l54_50⟩
  by_cases e55:n=55
  · subst e55
    by_cases c0:p<50
    · exact ⟨_, _, by omega, by omega, by decide, l55_0⟩
    exact ⟨_, _, by omega, by omega, by decide, l55_50⟩
  by_cases e56:n=56
  · subst e56
    by_cases c0:p<50
    · exact ⟨_, _, by omega, by omega, by decide, l56_0⟩
    exact ⟨_, _, by omega, by omega, by decide, l56_50⟩
  by_cases e57:n=57
  · subst e57
    by_cases c0:p<50
    · exact ⟨_, _, by omega, by omega, by decide, l57_0⟩
    exact ⟨_, _, by omega, by omega, by decide, l57_50⟩
  by_cases e58:n=58
  · subst e58
    by_cases c0:p<50
    · exact ⟨_, _, by omega, by omega, by decide, l58_0⟩
    exact ⟨_, _, by omega, by omega, by decide, l58_50⟩
  by_cases e59:n=59
  · subst e59
    by_cases c0:p<50
    · exact ⟨_, _, by omega, by omega, by decide, l59_0⟩
    exact ⟨_, _, by omega, by omega, by decide, l59_50⟩
  by_cases e60:n=60
  · subst e60
    by_cases c0:p<50
    · exact ⟨_, _, by omega, by omega, by decide, l60_0⟩
    exact ⟨_, _, by omega, by omega, by decide, l60_50⟩
  by_cases e61:n=61
  · subst e61
    by_cases c0:p<50
    · exact ⟨_, _, by omega, by omega, by decide, l61_0⟩
    exact ⟨_, _, by omega, by omega, by decide, l61_50⟩
  exact absurd h2 (by omega)
end Go.Ev.YtnelgnghdioapaaGreatDoor
