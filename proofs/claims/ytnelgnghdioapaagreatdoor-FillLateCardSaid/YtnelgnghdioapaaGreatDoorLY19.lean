/- What is run of FillLate, 19. -/
import Derived.Test.YtnelgnghdioapaaGreatDoorLY
import Derived.KernelRfl
namespace Go.Ev.YtnelgnghdioapaaGreatDoor
open Go Go.Ev
set_option maxRecDepth 100000
theorem h160:latQ (.int .i64 160) (.oth (.iv .i64 160 9223372036854775807))=true := by kernel_rfl
theorem l160_0:latQ (.int .i64 160) (.oth (.iv .i64 0 49))=true := by kernel_rfl
theorem l160_50:latQ (.int .i64 160) (.oth (.iv .i64 50 99))=true := by kernel_rfl
theorem l160_100:latQ (.int .i64 160) (.oth (.iv .i64 100 149))=true := by kernel_rfl
theorem l160_150:latQ (.int .i64 160) (.oth (.iv .i64 150 159))=true := by kernel_rfl
theorem h161:latQ (.int .i64 161) (.oth (.iv .i64 161 9223372036854775807))=true := by kernel_rfl
theorem l161_0:latQ (.int .i64 161) (.oth (.iv .i64 0 49))=true := by kernel_rfl
theorem l161_50:latQ (.int .i64 161) (.oth (.iv .i64 50 99))=true := by kernel_rfl
theorem l161_100:latQ (.int .i64 161) (.oth (.iv .i64 100 149))=true := by kernel_rfl
theorem l161_150:latQ (.int .i64 161) (.oth (.iv .i64 150 160))=true := by kernel_rfl
theorem h162:latQ (.int .i64 162) (.oth (.iv .i64 162 9223372036854775807))=true := by kernel_rfl
theorem l162_0:latQ (.int .i64 162) (.oth (.iv .i64 0 49))=true := by kernel_rfl
theorem l162_50:latQ (.int .i64 162) (.oth (.iv .i64 50 99))=true := by kernel_rfl
theorem l162_100:latQ (.int .i64 162) (.oth (.iv .i64 100 149))=true := by kernel_rfl
theorem l162_150:latQ (.int .i64 162) (.oth (.iv .i64 150 161))=true := by kernel_rfl
theorem h163:latQ (.int .i64 163) (.oth (.iv .i64 163 9223372036854775807))=true := by kernel_rfl
theorem l163_0:latQ (.int .i64 163) (.oth (.iv .i64 0 49))=true := by kernel_rfl
theorem l163_50:latQ (.int .i64 163) (.oth (.iv .i64 50 99))=true := by kernel_rfl
theorem l163_100:latQ (.int .i64 163) (.oth (.iv .i64 100 149))=true := by kernel_rfl
theorem l163_150:latQ (.int .i64 163) (.oth (.iv .i64 150 162))=true := by kernel_rfl
theorem hi19 (n:Nat) (h1:160≤n) (h2:n<164):latQ (.int .i64 n) (.oth (.iv .i64 n 9223372036854775807))=true := by
  by_cases e160:n=160
  · subst e160; exact h160
  by_cases e161:n=161
  · subst e161; exact h161
  by_cases e162:n=162
  · subst e162; exact h162
  by_cases e163:n=163
  · subst e163; exact h163
  exact absurd h2 (by omega)
theorem late19 (n p:Nat) (h1:160≤n) (h2:n<164) (h:p<n):LatOK n p := by
  by_cases e160:n=160
  · subst e160
    by_cases c0:p<50
    · exact ⟨_, _, by omega, by omega, by decide, l160_0⟩
    by_cases c50:p<100
    · exact ⟨_, _, by omega, by omega, by decide, l160_50⟩
    by_cases c100:p<150
    · exact ⟨_, _, by omega, by omega, by decide, l160_100⟩
    exact ⟨_, _, by omega, by omega, by decide, l160_150⟩
  by_cases e161:n=161
  · subst e161
    by_cases c0:p<50
    · exact ⟨_, _, by omega, by omega, by decide, l161_0⟩
    by_cases c50:p<100
    · exact ⟨_, _, by omega, by omega, by decide, l161_50⟩
    by_cases c100:p<150
    · exact ⟨_, _, by omega, by omega, by decide, l161_100⟩
    exact ⟨_, _, by omega, by omega, by decide, l161_150⟩
  by_cases e162:n=162
  · subst e162
    by_cases c0:p<50
    · exact ⟨_, _, by omega, by omega, by decide, l162_0⟩
    by_cases c50:p<100
    · exact ⟨_, _, by omega, by omega, by decide, l162_50⟩
    by_cases c100:p<150
    · exact ⟨_, _, by omega, by omega, by decide, l162_100⟩
    exact ⟨_, _, by omega, by omega, by decide, l162_150⟩
  by_cases e163:n=163
  · subst e163
    by_cases c0:p<50
    · exact ⟨_, _, by omega, by omega, by decide, l163_0⟩
    by_cases c50:p<100
    · exact ⟨_, _, by omega, by omega, by decide, l163_50⟩
    by_cases c100:p<150
    · exact ⟨_, _, by omega, by omega, by decide, l163_100⟩
    exact ⟨_, _, by omega, by omega, by decide, l163_150⟩
  exact absurd h2 (by omega)
end Go.Ev.YtnelgnghdioapaaGreatDoor
