/- What is run of FillLate, 11. -/
import Derived.Test.YtnelgnghdioapaaGreatDoorLY
import Derived.KernelRfl
namespace Go.Ev.YtnelgnghdioapaaGreatDoor
open Go Go.Ev
set_option maxRecDepth 100000
theorem h121:latQ (.int .i64 121) (.oth (.iv .i64 121 9223372036854775807))=true := by kernel_rfl
theorem l121_0:latQ (.int .i64 121) (.oth (.iv .i64 0 49))=true := by kernel_rfl
theorem l121_50:latQ (.int .i64 121) (.oth (.iv .i64 50 99))=true := by kernel_rfl
theorem l121_100:latQ (.int .i64 121) (.oth (.iv .i64 100 120))=true := by kernel_rfl
theorem h122:latQ (.int .i64 122) (.oth (.iv .i64 122 9223372036854775807))=true := by kernel_rfl
theorem l122_0:latQ (.int .i64 122) (.oth (.iv .i64 0 49))=true := by kernel_rfl
theorem l122_50:latQ (.int .i64 122) (.oth (.iv .i64 50 99))=true := by kernel_rfl
theorem l122_100:latQ (.int .i64 122) (.oth (.iv .i64 100 121))=true := by kernel_rfl
theorem h123:latQ (.int .i64 123) (.oth (.iv .i64 123 9223372036854775807))=true := by kernel_rfl
theorem l123_0:latQ (.int .i64 123) (.oth (.iv .i64 0 49))=true := by kernel_rfl
theorem l123_50:latQ (.int .i64 123) (.oth (.iv .i64 50 99))=true := by kernel_rfl
theorem l123_100:latQ (.int .i64 123) (.oth (.iv .i64 100 122))=true := by kernel_rfl
theorem h124:latQ (.int .i64 124) (.oth (.iv .i64 124 9223372036854775807))=true := by kernel_rfl
theorem l124_0:latQ (.int .i64 124) (.oth (.iv .i64 0 49))=true := by kernel_rfl
theorem l124_50:latQ (.int .i64 124) (.oth (.iv .i64 50 99))=true := by kernel_rfl
theorem l124_100:latQ (.int .i64 124) (.oth (.iv .i64 100 123))=true := by kernel_rfl
theorem h125:latQ (.int .i64 125) (.oth (.iv .i64 125 9223372036854775807))=true := by kernel_rfl
theorem l125_0:latQ (.int .i64 125) (.oth (.iv .i64 0 49))=true := by kernel_rfl
theorem l125_50:latQ (.int .i64 125) (.oth (.iv .i64 50 99))=true := by kernel_rfl
theorem l125_100:latQ (.int .i64 125) (.oth (.iv .i64 100 124))=true := by kernel_rfl
theorem hi11 (n:Nat) (h1:121≤n) (h2:n<126):latQ (.int .i64 n) (.oth (.iv .i64 n 9223372036854775807))=true := by
  by_cases e121:n=121
  · subst e121; exact h121
  by_cases e122:n=122
  · subst e122; exact h122
  by_cases e123:n=123
  · subst e123; exact h123
  by_cases e124:n=124
  · subst e124; exact h124
  by_cases e125:n=125
  · subst e125; exact h125
  exact absurd h2 (by omega)
theorem late11 (n p:Nat) (h1:121≤n) (h2:n<126) (h:p<n):LatOK n p := by
  by_cases e121:n=121
  · subst e121
    by_cases c0:p<50
    · exact ⟨_, _, by omega, by omega, by decide, l121_0⟩
    by_cases c50:p<100
    · exact ⟨_, _, by omega, by omega, by decide, l121_50⟩
    exact ⟨_, _, by omega, by omega, by decide, l121_100⟩
  by_cases e122:n=122
  · subst e122
    by_cases c0:p<50
    · exact ⟨_, _, by omega, by omega, by decide, l122_0⟩
    by_cases c50:p<100
    · exact ⟨_, _, by omega, by omega, by decide, l122_50⟩
    exact ⟨_, _, by omega, by omega, by decide, l122_100⟩
  by_cases e123:n=123
  · subst e123
    by_cases c0:p<50
    · exact ⟨_, _, by omega, by omega, by decide, l123_0⟩
    by_cases c50:p<100
    · exact ⟨_, _, by omega, by omega, by decide, l123_50⟩
    exact ⟨_, _, by omega, by omega, by decide, l123_100⟩
  by_cases e124:n=124
  · subst e124
    by_cases c0:p<50
    · exact ⟨_, _, by omega, by omega, by decide, l124_0⟩
    by_cases c50:p<100
    · exact ⟨_, _, by omega, by omega, by decide, l124_50⟩
    exact ⟨_, _, by omega, by omega, by decide, l124_100⟩
  by_cases e125:n=125
  · subst e125
    by_cases c0:p<50
    · exact ⟨_, _, by omega, by omega, by decide, l125_0⟩
    by_cases c50:p<100
    · exact ⟨_, _, by omega, by omega, by decide, l125_50⟩
    exact ⟨_, _, by omega, by omega, by decide, l125_100⟩
  exact absurd h2 (by omega)
end Go.Ev.YtnelgnghdioapaaGreatDoor
