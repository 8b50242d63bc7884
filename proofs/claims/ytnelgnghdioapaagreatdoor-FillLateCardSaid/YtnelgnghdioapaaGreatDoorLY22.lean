/- What is run of FillLate, 22. -/
import Derived.Test.YtnelgnghdioapaaGreatDoorLY
import Derived.KernelRfl
namespace Go.Ev.YtnelgnghdioapaaGreatDoor
open Go Go.Ev
set_option maxRecDepth 100000
theorem h172:latQ (.int .i64 172) (.oth (.iv .i64 172 9223372036854775807))=true := by kernel_rfl
theorem l172_0:latQ (.int .i64 172) (.oth (.iv .i64 0 49))=true := by kernel_rfl
theorem l172_50:latQ (.int .i64 172) (.oth (.iv .i64 50 99))=true := by kernel_rfl
theorem l172_100:latQ (.int .i64 172) (.oth (.iv .i64 100 149))=true := by kernel_rfl
theorem l172_150:latQ (.int .i64 172) (.oth (.iv .i64 150 171))=true := by kernel_rfl
theorem h173:latQ (.int .i64 173) (.oth (.iv .i64 173 9223372036854775807))=true := by kernel_rfl
theorem l173_0:latQ (.int .i64 173) (.oth (.iv .i64 0 49))=true := by kernel_rfl
theorem l173_50:latQ (.int .i64 173) (.oth (.iv .i64 50 99))=true := by kernel_rfl
theorem l173_100:latQ (.int .i64 173) (.oth (.iv .i64 100 149))=true := by kernel_rfl
theorem l173_150:latQ (.int .i64 173) (.oth (.iv .i64 150 172))=true := by kernel_rfl
theorem h174:latQ (.int .i64 174) (.oth (.iv .i64 174 9223372036854775807))=true := by kernel_rfl
theorem l174_0:latQ (.int .i64 174) (.oth (.iv .i64 0 49))=true := by kernel_rfl
theorem l174_50:latQ (.int .i64 174) (.oth (.iv .i64 50 99))=true := by kernel_rfl
theorem l174_100:latQ (.int .i64 174) (.oth (.iv .i64 100 149))=true := by kernel_rfl
theorem l174_150:latQ (.int .i64 174) (.oth (.iv .i64 150 173))=true := by kernel_rfl
theorem h175:latQ (.int .i64 175) (.oth (.iv .i64 175 9223372036854775807))=true := by kernel_rfl
theorem l175_0:latQ (.int .i64 175) (.oth (.iv .i64 0 49))=true := by kernel_rfl
theorem l175_50:latQ (.int .i64 175) (.oth (.iv .i64 50 99))=true := by kernel_rfl
theorem l175_100:latQ (.int .i64 175) (.oth (.iv .i64 100 149))=true := by kernel_rfl
theorem l175_150:latQ (.int .i64 175) (.oth (.iv .i64 150 174))=true := by kernel_rfl
theorem hi22 (n:Nat) (h1:172≤n) (h2:n<176):latQ (.int .i64 n) (.oth (.iv .i64 n 9223372036854775807))=true := by
  by_cases e172:n=172
  · subst e172; exact h172
  by_cases e173:n=173
  · subst e173; exact h173
  by_cases e174:n=174
  · subst e174; exact h174
  by_cases e175:n=175
  · subst e175; exact h175
  exact absurd h2 (by omega)
theorem late22 (n p:Nat) (h1:172≤n) (h2:n<176) (h:p<n):LatOK n p := by
  by_cases e172:n=172
  · subst e172
    by_cases c0:p<50
    · exact ⟨_, _, by omega, by omega, by decide, l172_0⟩
    by_cases c50:p<100
    · exact ⟨_, _, by omega, by omega, by decide, l172_50⟩
    by_cases c100:p<150
    · exact ⟨_, _, by omega, by omega, by decide, l172_100⟩
    exact ⟨_, _, by omega, by omega, by decide, l172_150⟩
  by_cases e173:n=173
  · subst e173
    by_cases c0:p<50
    · exact ⟨_, _, by omega, by omega, by decide, l173_0⟩
    by_cases c50:p<100
    · exact ⟨_, _, by omega, by omega, by decide, l173_50⟩
    by_cases c100:p<150
    · exact ⟨_, _, by omega, by omega, by decide, l173_100⟩
    exact ⟨_, _, by omega, by omega, by decide, l173_150⟩
  by_cases e174:n=174
  · subst e174
    by_cases c0:p<50
    · exact ⟨_, _, by omega, by omega, by decide, l174_0⟩
    by_cases c50:p<100
    · exact ⟨_, _, by omega, by omega, by decide, l174_50⟩
    by_cases c100:p<150
    · exact ⟨_, _, by omega, by omega, by decide, l174_100⟩
    exact ⟨_, _, by omega, by omega, by decide, l174_150⟩
  by_cases e175:n=175
  · subst e175
    by_cases c0:p<50
    · exact ⟨_, _, by omega, by omega, by decide, l175_0⟩
    by_cases c50:p<100
    · exact ⟨_, _, by omega, by omega, by decide, l175_50⟩
    by_cases c100:p<150
    · exact ⟨_, _, by omega, by omega, by decide, l175_100⟩
    exact ⟨_, _, by omega, by omega, by decide, l175_150⟩
  exact absurd h2 (by omega)
end Go.Ev.YtnelgnghdioapaaGreatDoor
