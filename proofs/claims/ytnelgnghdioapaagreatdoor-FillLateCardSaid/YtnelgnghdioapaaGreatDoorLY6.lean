/- What is run of FillLate, 6. -/
import Derived.Test.YtnelgnghdioapaaGreatDoorLY
import Derived.KernelRfl
namespace Go.Ev.YtnelgnghdioapaaGreatDoor
open Go Go.Ev
set_option maxRecDepth 100000
theorem h89:latQ (.int .i64 89) (.oth (.iv .i64 89 9223372036854775807))=true := by kernel_rfl
theorem l89_0:latQ (.int .i64 89) (.oth (.iv .i64 0 49))=true := by kernel_rfl
theorem l89_50:latQ (.int .i64 89) (.oth (.iv .i64 50 88))=true := by kernel_rfl
theorem h90:latQ (.int .i64 90) (.oth (.iv .i64 90 9223372036854775807))=true := by kernel_rfl
theorem l90_0:latQ (.int .i64 90) (.oth (.iv .i64 0 49))=true := by kernel_rfl
theorem l90_50:latQ (.int .i64 90) (.oth (.iv .i64 50 89))=true := by kernel_rfl
theorem h91:latQ (.int .i64 91) (.oth (.iv .i64 91 9223372036854775807))=true := by kernel_rfl
theorem l91_0:latQ (.int .i64 91) (.oth (.iv .i64 0 49))=true := by kernel_rfl
theorem l91_50:latQ (.int .i64 91) (.oth (.iv .i64 50 90))=true := by kernel_rfl
theorem h92:latQ (.int .i64 92) (.oth (.iv .i64 92 9223372036854775807))=true := by kernel_rfl
theorem l92_0:latQ (.int .i64 92) (.oth (.iv .i64 0 49))=true := by kernel_rfl
theorem l92_50:latQ (.int .i64 92) (.oth (.iv .i64 50 91))=true := by kernel_rfl
theorem h93:latQ (.int .i64 93) (.oth (.iv .i64 93 9223372036854775807))=true := by kernel_rfl
theorem l93_0:latQ (.int .i64 93) (.oth (.iv .i64 0 49))=true := by kernel_rfl
theorem l93_50:latQ (.int .i64 93) (.oth (.iv .i64 50 92))=true := by kernel_rfl
theorem h94:latQ (.int .i64 94) (.oth (.iv .i64 94 9223372036854775807))=true := by kernel_rfl
theorem l94_0:latQ (.int .i64 94) (.oth (.iv .i64 0 49))=true := by kernel_rfl
theorem l94_50:latQ (.int .i64 94) (.oth (.iv .i64 50 93))=true := by kernel_rfl
theorem h95:latQ (.int .i64 95) (.oth (.iv .i64 95 9223372036854775807))=true := by kernel_rfl
theorem l95_0:latQ (.int .i64 95) (.oth (.iv .i64 0 49))=true := by kernel_rfl
theorem l95_50:latQ (.int .i64 95) (.oth (.iv .i64 50 94))=true := by kernel_rfl
theorem hi6 (n:Nat) (h1:89≤n) (h2:n<96):latQ (.int .i64 n) (.oth (.iv .i64 n 9223372036854775807))=true := by
  by_cases e89:n=89
  · subst e89; exact h89
  by_cases e90:n=90
  · subst e90; exact h90
  by_cases e91:n=91
  · subst e91; exact h91
  by_cases e92:n=92
  · subst e92; exact h92
  by_cases e93:n=93
  · subst e93; exact h93
  by_cases e94:n=94
  · subst e94; exact h94
  by_cases e95:n=95
  · subst e95; exact h95
  exact absurd h2 (by omega)
theorem late6 (n p:Nat) (h1:89≤n) (h2:n<96) (h:p<n):LatOK n p := by
  by_cases e89:n=89
  · subst e89
    by_cases c0:p<50
    · exact ⟨_, _, by omega, by omega, by decide, l89_0⟩
    exact ⟨_, _, by omega, by omega, by decide, l89_50⟩
  by_cases e90:n=90
  · subst e90
    by_cases c0:p<50
    · exact ⟨_, _, by omega, by omega, by decide, l90_0⟩
    exact ⟨_, _, by omega, by omega, by decide, l90_50⟩
  by_cases e91:n=91
  · subst e91
    by_cases c0:p<50
    · exact ⟨_, _, by omega, by omega, by decide, l91_0⟩
    exact ⟨_, _, by omega, by omega, by decide, l91_50⟩
  by_cases e92:n=92
  · subst e92
    by_cases c0:p<50
    · exact ⟨_, _, by omega, by omega, by decide, l92_0⟩
    exact ⟨_, _, by omega, by omega, by decide, l92_50⟩
  by_cases e93:n=93
  · subst e93
    by_cases c0:p<50
    · exact ⟨_, _, by omega, by omega, by decide, l93_0⟩
    exact ⟨_, _, by omega, by omega, by decide, l93_50⟩
  by_cases e94:n=94
  · subst e94
    by_cases c0:p<50
    · exact ⟨_, _, by omega, by omega, by decide, l94_0⟩
    exact ⟨_, _, by omega, by omega, by decide, l94_50⟩
  by_cases e95:n=95
  · subst e95
    by_cases c0:p<50
    · exact ⟨_, _, by omega, by omega, by decide, l95_0⟩
    exact ⟨_, _, by omega, by omega, by decide, l95_50⟩
  exact absurd h2 (by omega)
end Go.Ev.YtnelgnghdioapaaGreatDoor
