/- What is run of FillLate, 14. -/
import Derived.Test.YtnelgnghdioapaaGreatDoorLY
import Derived.KernelRfl
namespace Go.Ev.YtnelgnghdioapaaGreatDoor
open Go Go.Ev
set_option maxRecDepth 100000
theorem h137:latQ (.int .i64 137) (.oth (.iv .i64 137 9223372036854775807))=true := by kernel_rfl
theorem l137_0:latQ (.int .i64 137) (.oth (.iv .i64 0 49))=true := by kernel_rfl
theorem l137_50:latQ (.int .i64 137) (.oth (.iv .i64 50 99))=true := by kernel_rfl
theorem l137_100:latQ (.int .i64 137) (.oth (.iv .i64 100 136))=true := by kernel_rfl
theorem h138:latQ (.int .i64 138) (.oth (.iv .i64 138 9223372036854775807))=true := by kernel_rfl
theorem l138_0:latQ (.int .i64 138) (.oth (.iv .i64 0 49))=true := by kernel_rfl
theorem l138_50:latQ (.int .i64 138) (.oth (.iv .i64 50 99))=true := by kernel_rfl
theorem l138_100:latQ (.int .i64 138) (.oth (.iv .i64 100 137))=true := by kernel_rfl
theorem h139:latQ (.int .i64 139) (.oth (.iv .i64 139 9223372036854775807))=true := by kernel_rfl
theorem l139_0:latQ (.int .i64 139) (.oth (.iv .i64 0 49))=true := by kernel_rfl
theorem l139_50:latQ (.int .i64 139) (.oth (.iv .i64 50 99))=true := by kernel_rfl
theorem l139_100:latQ (.int .i64 139) (.oth (.iv .i64 100 138))=true := by kernel_rfl
theorem h140:latQ (.int .i64 140) (.oth (.iv .i64 140 9223372036854775807))=true := by kernel_rfl
theorem l140_0:latQ (.int .i64 140) (.oth (.iv .i64 0 49))=true := by kernel_rfl
theorem l140_50:latQ (.int .i64 140) (.oth (.iv .i64 50 99))=true := by kernel_rfl
theorem l140_100:latQ (.int .i64 140) (.oth (.iv .i64 100 139))=true := by kernel_rfl
theorem h141:latQ (.int .i64 141) (.oth (.iv .i64 141 9223372036854775807))=true := by kernel_rfl
theorem l141_0:latQ (.int .i64 141) (.oth (.iv .i64 0 49))=true := by kernel_rfl
theorem l141_50:latQ (.int .i64 141) (.oth (.iv .i64 50 99))=true := by kernel_rfl
theorem l141_100:latQ (.int .i64 141) (.oth (.iv .i64 100 140))=true := by kernel_rfl
theorem hi14 (n:Nat) (h1:137≤n) (h2:n<142):latQ (.int .i64 n) (.oth (.iv .i64 n 9223372036854775807))=true := by
  by_cases e137:n=137
  · subst e137; exact h137
  by_cases e138:n=138
  · subst e138; exact h138
  by_cases e139:n=139
  · subst e139; exact h139
  by_cases e140:n=140
  · subst e140; exact h140
  by_cases e141:n=141
  · subst e141; exact h141
  exact absurd h2 (by omega)
theorem late14 (n p:Nat) (h1:137≤n) (h2:n<142) (h:p<n):LatOK n p := by
  by_cases e137:n=137
  · subst e137
    by_cases c0:p<50
    · exact ⟨_, _, by omega, by omega, by decide, l137_0⟩
    by_cases c50:p<100
    · exact ⟨_, _, by omega, by omega, by decide, l137_50⟩
    exact ⟨_, _, by omega, by omega, by decide, l137_100⟩
  by_cases e138:n=138
  · subst e138
    by_cases c0:p<50
    · exact ⟨_, _, by omega, by omega, by decide, l138_0⟩
    by_cases c50:p<100
    · exact ⟨_, _, by omega, by omega, by decide, l138_50⟩
    exact ⟨_, _, by omega, by omega, by decide, l138_100⟩
  by_cases e139:n=139
  · subst e139
    by_cases c0:p<50
    · exact ⟨_, _, by omega, by omega, by decide, l139_0⟩
    by_cases c50:p<100
    · exact ⟨_, _, by omega, by omega, by decide, l139_50⟩
    exact ⟨_, _, by omega, by omega, by decide, l139_100⟩
  by_cases e140:n=140
  · subst e140
    by_cases c0:p<50
    · exact ⟨_, _, by omega, by omega, by decide, l140_0⟩
    by_cases c50:p<100
    · exact ⟨_, _, by omega, by omega, by decide, l140_50⟩
    exact ⟨_, _, by omega, by omega, by decide, l140_100⟩
  by_cases e141:n=141
  · subst e141
    by_cases c0:p<50
    · exact ⟨_, _, by omega, by omega, by decide, l141_0⟩
    by_cases c50:p<100
    · exact ⟨_, _, by omega, by omega, by decide, l141_50⟩
    exact ⟨_, _, by omega, by omega, by decide, l141_100⟩
  exact absurd h2 (by omega)
end Go.Ev.YtnelgnghdioapaaGreatDoor
