/- What is run of FillLate, 18. -/
import Derived.Test.YtnelgnghdioapaaGreatDoorLY
import Derived.KernelRfl
namespace Go.Ev.YtnelgnghdioapaaGreatDoor
open Go Go.Ev
set_option maxRecDepth 100000
theorem h155:latQ (.int .i64 155) (.oth (.iv .i64 155 9223372036854775807))=true := by kernel_rfl
theorem l155_0:latQ (.int .i64 155) (.oth (.iv .i64 0 49))=true := by kernel_rfl
theorem l155_50:latQ (.int .i64 155) (.oth (.iv .i64 50 99))=true := by kernel_rfl
theorem l155_100:latQ (.int .i64 155) (.oth (.iv .i64 100 149))=true := by kernel_rfl
theorem l155_150:latQ (.int .i64 155) (.oth (.iv .i64 150 154))=true := by kernel_rfl
theorem h156:latQ (.int .i64 156) (.oth (.iv .i64 156 9223372036854775807))=true := by kernel_rfl
theorem l156_0:latQ (.int .i64 156) (.oth (.iv .i64 0 49))=true := by kernel_rfl
theorem l156_50:latQ (.int .i64 156) (.oth (.iv .i64 50 99))=true := by kernel_rfl
theorem l156_100:latQ (.int .i64 156) (.oth (.iv .i64 100 149))=true := by kernel_rfl
theorem l156_150:latQ (.int .i64 156) (.oth (.iv .i64 150 155))=true := by kernel_rfl
theorem h157:latQ (.int .i64 157) (.oth (.iv .i64 157 9223372036854775807))=true := by kernel_rfl
theorem l157_0:latQ (.int .i64 157) (.oth (.iv .i64 0 49))=true := by kernel_rfl
theorem l157_50:latQ (.int .i64 157) (.oth (.iv .i64 50 99))=true := by kernel_rfl
theorem l157_100:latQ (.int .i64 157) (.oth (.iv .i64 100 149))=true := by kernel_rfl
theorem l157_150:latQ (.int .i64 157) (.oth (.iv .i64 150 156))=true := by kernel_rfl
theorem h158:latQ (.int .i64 158) (.oth (.iv .i64 158 9223372036854775807))=true := by kernel_rfl
theorem l158_0:latQ (.int .i64 158) (.oth (.iv .i64 0 49))=true := by kernel_rfl
theorem l158_50:latQ (.int .i64 158) (.oth (.iv .i64 50 99))=true := by kernel_rfl
theorem l158_100:latQ (.int .i64 158) (.oth (.iv .i64 100 149))=true := by kernel_rfl
theorem l158_150:latQ (.int .i64 158) (.oth (.iv .i64 150 157))=true := by kernel_rfl
theorem h159:latQ (.int .i64 159) (.oth (.iv .i64 159 9223372036854775807))=true := by kernel_rfl
theorem l159_0:latQ (.int .i64 159) (.oth (.iv .i64 0 49))=true := by kernel_rfl
theorem l159_50:latQ (.int .i64 159) (.oth (.iv .i64 50 99))=true := by kernel_rfl
theorem l159_100:latQ (.int .i64 159) (.oth (.iv .i64 100 149))=true := by kernel_rfl
theorem l159_150:latQ (.int .i64 159) (.oth (.iv .i64 150 158))=true := by kernel_rfl
theorem hi18 (n:Nat) (h1:155≤n) (h2:n<160):latQ (.int .i64 n) (.oth (.iv .i64 n 9223372036854775807))=true := by
  by_cases e155:n=155
  · subst e155; exact h155
  by_cases e156:n=156
  · subst e156; exact h156
  by_cases e157:n=157
  · subst e157; exact h157
  by_cases e158:n=158
  · subst e158; exact h158
  by_cases e159:n=159
  · subst e159; exact h159
  exact absurd h2 (by omega)
theorem late18 (n p:Nat) (h1:155≤n) (h2:n<160) (h:p<n):LatOK n p := by
  by_cases e155:n=155
  · subst e155
    by_cases c0:p<50
    · exact ⟨_, _, by omega, by omega, by decide, l155_0⟩
    by_cases c50:p<100
    · exact ⟨_, _, by omega, by omega, by decide, l155_50⟩
    by_cases c100:p<150
    · exact ⟨_, _, by omega, by omega, by decide, l155_100⟩
    exact ⟨_, _, by omega, by omega, by decide, l155_150⟩
  by_cases e156:n=156
  · subst e156
    by_cases c0:p<50
    · exact ⟨_, _, by omega, by omega, by decide, l156_0⟩
    by_cases c50:p<100
    · exact ⟨_, _, by omega, by omega, by decide, l156_50⟩
    by_cases c100:p<150
    · exact ⟨_, _, by omega, by omega, by decide, l156_100⟩
    exact ⟨_, _, by omega, by omega, by decide, l156_150⟩
  by_cases e157:n=157
  · subst e157
    by_cases c0:p<50
    · exact ⟨_, _, by omega, by omega, by decide, l157_0⟩
    by_cases c50:p<100
    · exact ⟨_, _, by omega, by omega, by decide, l157_50⟩
    by_cases c100:p<150
    · exact ⟨_, _, by omega, by omega, by decide, l157_100⟩
    exact ⟨_, _, by omega, by omega, by decide, l157_150⟩
  by_cases e158:n=158
  · subst e158
    by_cases c0:p<50
    · exact ⟨_, _, by omega, by omega, by decide, l158_0⟩
    by_cases c50:p<100
    · exact ⟨_, _, by omega, by omega, by decide, l158_50⟩
    by_cases c100:p<150
    · exact ⟨_, _, by omega, by omega, by decide, l158_100⟩
    exact ⟨_, _, by omega, by omega, by decide, l158_150⟩
  by_cases e159:n=159
  · subst e159
    by_cases c0:p<50
    · exact ⟨_, _, by omega, by omega, by decide, l159_0⟩
    by_cases c50:p<100
    · exact ⟨_, _, by omega, by omega, by decide, l159_50⟩
    by_cases c100:p<150
    · exact ⟨_, _, by omega, by omega, by decide, l159_100⟩
    exact ⟨_, _, by omega, by omega, by decide, l159_150⟩
  exact absurd h2 (by omega)
end Go.Ev.YtnelgnghdioapaaGreatDoor
