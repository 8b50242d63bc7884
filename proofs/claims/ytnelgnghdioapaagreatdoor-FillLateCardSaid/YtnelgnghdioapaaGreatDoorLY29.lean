/- What is run of FillLate, 29. -/
import Derived.Test.YtnelgnghdioapaaGreatDoorLY
import Derived.KernelRfl
namespace Go.Ev.YtnelgnghdioapaaGreatDoor
open Go Go.Ev
set_option maxRecDepth 100000
theorem h198:latQ (.int .i64 198) (.oth (.iv .i64 198 9223372036854775807))=true := by kernel_rfl
theorem l198_0:latQ (.int .i64 198) (.oth (.iv .i64 0 49))=true := by kernel_rfl
theorem l198_50:latQ (.int .i64 198) (.oth (.iv .i64 50 99))=true := by kernel_rfl
theorem l198_100:latQ (.int .i64 198) (.oth (.iv .i64 100 149))=true := by kernel_rfl
theorem l198_150:latQ (.int .i64 198) (.oth (.iv .i64 150 197))=true := by kernel_rfl
theorem h199:latQ (.int .i64 199) (.oth (.iv .i64 199 9223372036854775807))=true := by kernel_rfl
theorem l199_0:latQ (.int .i64 199) (.oth (.iv .i64 0 49))=true := by kernel_rfl
theorem l199_50:latQ (.int .i64 199) (.oth (.iv .i64 50 99))=true := by kernel_rfl
theorem l199_100:latQ (.int .i64 199) (.oth (.iv .i64 100 149))=true := by kernel_rfl
theorem l199_150:latQ (.int .i64 199) (.oth (.iv .i64 150 198))=true := by kernel_rfl
theorem h200:latQ (.int .i64 200) (.oth (.iv .i64 200 9223372036854775807))=true := by kernel_rfl
theorem l200_0:latQ (.int .i64 200) (.oth (.iv .i64 0 49))=true := by kernel_rfl
theorem l200_50:latQ (.int .i64 200) (.oth (.iv .i64 50 99))=true := by kernel_rfl
theorem l200_100:latQ (.int .i64 200) (.oth (.iv .i64 100 149))=true := by kernel_rfl
theorem l200_150:latQ (.int .i64 200) (.oth (.iv .i64 150 199))=true := by kernel_rfl
theorem hi29 (n:Nat) (h1:198≤n) (h2:n<201):latQ (.int .i64 n) (.oth (.iv .i64 n 9223372036854775807))=true := by
  by_cases e198:n=198
  · subst e198; exact h198
  by_cases e199:n=199
  · subst e199; exact h199
  by_cases e200:n=200
  · subst e200; exact h200
  exact absurd h2 (by omega)
theorem late29 (n p:Nat) (h1:198≤n) (h2:n<201) (h:p<n):LatOK n p := by
  by_cases e198:n=198
  · subst e198
    by_cases c0:p<50
    · exact ⟨_, _, by omega, by omega, by decide, l198_0⟩
    by_cases c50:p<100
    · exact ⟨_, _, by omega, by omega, by decide, l198_50⟩
    by_cases c100:p<150
    · exact ⟨_, _, by omega, by omega, by decide, l198_100⟩
    exact ⟨_, _, by omega, by omega, by decide, l198_150⟩
  by_cases e199:n=199
  · subst e199
    by_cases c0:p<50
    · exact ⟨_, _, by omega, by omega, by decide, l199_0⟩
    by_cases c50:p<100
    · exact ⟨_, _, by omega, by omega, by decide, l199_50⟩
    by_cases c100:p<150
    · exact ⟨_, _, by omega, by omega, by decide, l199_100⟩
    exact ⟨_, _, by omega, by omega, by decide, l199_150⟩
  by_cases e200:n=200
  · subst e200
    by_cases c0:p<50
    · exact ⟨_, _, by omega, by omega, by decide, l200_0⟩
    by_cases c50:p<100
    · exact ⟨_, _, by omega, by omega, by decide, l200_50⟩
    by_cases c100:p<150
    · exact ⟨_, _, by omega, by omega, by decide, l200_100⟩
    exact ⟨_, _, by omega, by omega, by decide, l200_150⟩
  exact absurd h2 (by omega)
end Go.Ev.YtnelgnghdioapaaGreatDoor
