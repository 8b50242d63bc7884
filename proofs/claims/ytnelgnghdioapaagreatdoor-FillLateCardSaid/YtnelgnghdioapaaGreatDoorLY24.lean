/- What is run of FillLate, 24. -/
import Derived.Test.YtnelgnghdioapaaGreatDoorLY
import Derived.KernelRfl
namespace Go.Ev.YtnelgnghdioapaaGreatDoor
open Go Go.Ev
set_option maxRecDepth 100000
theorem h180:latQ (.int .i64 180) (.oth (.iv .i64 180 9223372036854775807))=true := by kernel_rfl
theorem l180_0:latQ (.int .i64 180) (.oth (.iv .i64 0 49))=true := by kernel_rfl
theorem l180_50:latQ (.int .i64 180) (.oth (.iv .i64 50 99))=true := by kernel_rfl
theorem l180_100:latQ (.int .i64 180) (.oth (.iv .i64 100 149))=true := by kernel_rfl
theorem l180_150:latQ (.int .i64 180) (.oth (.iv .i64 150 179))=true := by kernel_rfl
theorem h181:latQ (.int .i64 181) (.oth (.iv .i64 181 9223372036854775807))=true := by kernel_rfl
theorem l181_0:latQ (.int .i64 181) (.oth (.iv .i64 0 49))=true := by kernel_rfl
theorem l181_50:latQ (.int .i64 181) (.oth (.iv .i64 50 99))=true := by kernel_rfl
theorem l181_100:latQ (.int .i64 181) (.oth (.iv .i64 100 149))=true := by kernel_rfl
theorem l181_150:latQ (.int .i64 181) (.oth (.iv .i64 150 180))=true := by kernel_rfl
theorem h182:latQ (.int .i64 182) (.oth (.iv .i64 182 9223372036854775807))=true := by kernel_rfl
theorem l182_0:latQ (.int .i64 182) (.oth (.iv .i64 0 49))=true := by kernel_rfl
theorem l182_50:latQ (.int .i64 182) (.oth (.iv .i64 50 99))=true := by kernel_rfl
theorem l182_100:latQ (.int .i64 182) (.oth (.iv .i64 100 149))=true := by kernel_rfl
theorem l182_150:latQ (.int .i64 182) (.oth (.iv .i64 150 181))=true := by kernel_rfl
theorem h183:latQ (.int .i64 183) (.oth (.iv .i64 183 9223372036854775807))=true := by kernel_rfl
theorem l183_0:latQ (.int .i64 183) (.oth (.iv .i64 0 49))=true := by kernel_rfl
theorem l183_50:latQ (.int .i64 183) (.oth (.iv .i64 50 99))=true := by kernel_rfl
theorem l183_100:latQ (.int .i64 183) (.oth (.iv .i64 100 149))=true := by kernel_rfl
theorem l183_150:latQ (.int .i64 183) (.oth (.iv .i64 150 182))=true := by kernel_rfl
theorem hi24 (n:Nat) (h1:180≤n) (h2:n<184):latQ (.int .i64 n) (.oth (.iv .i64 n 9223372036854775807))=true := by
  by_cases e180:n=180
  · subst e180; exact h180
  by_cases e181:n=181
  · subst e181; exact h181
  by_cases e182:n=182
  · subst e182; exact h182
  by_cases e183:n=183
  · subst e183; exact h183
  exact absurd h2 (by omega)
theorem late24 (n p:Nat) (h1:180≤n) (h2:n<184) (h:p<n):LatOK n p := by
  by_cases e180:n=180
  · subst e180
    by_cases c0:p<50
    · exact ⟨_, _, by omega, by omega, by decide, l180_0⟩
    by_cases c50:p<100
    · exact ⟨_, _, by omega, by omega, by decide, l180_50⟩
    by_cases c100:p<150
    · exact ⟨_, _, by omega, by omega, by decide, l180_100⟩
    exact ⟨_, _, by omega, by omega, by decide, l180_150⟩
  by_cases e181:n=181
  · subst e181
    by_cases c0:p<50
    · exact ⟨_, _, by omega, by omega, by decide, l181_0⟩
    by_cases c50:p<100
    · exact ⟨_, _, by omega, by omega, by decide, l181_50⟩
    by_cases c100:p<150
    · exact ⟨_, _, by omega, by omega, by decide, l181_100⟩
    exact ⟨_, _, by omega, by omega, by decide, l181_150⟩
  by_cases e182:n=182
  · subst e182
    by_cases c0:p<50
    · exact ⟨_, _, by omega, by omega, by decide, l182_0⟩
    by_cases c50:p<100
    · exact ⟨_, _, by omega, by omega, by decide, l182_50⟩
    by_cases c100:p<150
    · exact ⟨_, _, by omega, by omega, by decide, l182_100⟩
    exact ⟨_, _, by omega, by omega, by decide, l182_150⟩
  by_cases e183:n=183
  · subst e183
    by_cases c0:p<50
    · exact ⟨_, _, by omega, by omega, by decide, l183_0⟩
    by_cases c50:p<100
    · exact ⟨_, _, by omega, by omega, by decide, l183_50⟩
    by_cases c100:p<150
    · exact ⟨_, _, by omega, by omega, by decide, l183_100⟩
    exact ⟨_, _, by omega, by omega, by decide, l183_150⟩
  exact absurd h2 (by omega)
end Go.Ev.YtnelgnghdioapaaGreatDoor
