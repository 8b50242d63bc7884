/- What is run of FillLate, 26. -/
import Derived.Test.YtnelgnghdioapaaGreatDoorLY
import Derived.KernelRfl
namespace Go.Ev.YtnelgnghdioapaaGreatDoor
open Go Go.Ev
set_option maxRecDepth 100000
theorem h187:latQ (.int .i64 187) (.oth (.iv .i64 187 9223372036854775807))=true := by kernel_rfl
theorem l187_0:latQ (.int .i64 187) (.oth (.iv .i64 0 49))=true := by kernel_rfl
theorem l187_50:latQ (.int .i64 187) (.oth (.iv .i64 50 99))=true := by kernel_rfl
theorem l187_100:latQ (.int .i64 187) (.oth (.iv .i64 100 149))=true := by kernel_rfl
theorem l187_150:latQ (.int .i64 187) (.oth (.iv .i64 150 186))=true := by kernel_rfl
theorem h188:latQ (.int .i64 188) (.oth (.iv .i64 188 9223372036854775807))=true := by kernel_rfl
theorem l188_0:latQ (.int .i64 188) (.oth (.iv .i64 0 49))=true := by kernel_rfl
theorem l188_50:latQ (.int .i64 188) (.oth (.iv .i64 50 99))=true := by kernel_rfl
theorem l188_100:latQ (.int .i64 188) (.oth (.iv .i64 100 149))=true := by kernel_rfl
theorem l188_150:latQ (.int .i64 188) (.oth (.iv .i64 150 187))=true := by kernel_rfl
theorem h189:latQ (.int .i64 189) (.oth (.iv .i64 189 9223372036854775807))=true := by kernel_rfl
theorem l189_0:latQ (.int .i64 189) (.oth (.iv .i64 0 49))=true := by kernel_rfl
theorem l189_50:latQ (.int .i64 189) (.oth (.iv .i64 50 99))=true := by kernel_rfl
theorem l189_100:latQ (.int .i64 189) (.oth (.iv .i64 100 149))=true := by kernel_rfl
theorem l189_150:latQ (.int .i64 189) (.oth (.iv .i64 150 188))=true := by kernel_rfl
theorem h190:latQ (.int .i64 190) (.oth (.iv .i64 190 9223372036854775807))=true := by kernel_rfl
theorem l190_0:latQ (.int .i64 190) (.oth (.iv .i64 0 49))=true := by kernel_rfl
theorem l190_50:latQ (.int .i64 190) (.oth (.iv .i64 50 99))=true := by kernel_rfl
theorem l190_100:latQ (.int .i64 190) (.oth (.iv .i64 100 149))=true := by kernel_rfl
theorem l190_150:latQ (.int .i64 190) (.oth (.iv .i64 150 189))=true := by kernel_rfl
theorem hi26 (n:Nat) (h1:187≤n) (h2:n<191):latQ (.int .i64 n) (.oth (.iv .i64 n 9223372036854775807))=true := by
  by_cases e187:n=187
  · subst e187; exact h187
  by_cases e188:n=188
  · subst e188; exact h188
  by_cases e189:n=189
  · subst e189; exact h189
  by_cases e190:n=190
  · subst e190; exact h190
  exact absurd h2 (by omega)
theorem late26 (n p:Nat) (h1:187≤n) (h2:n<191) (h:p<n):LatOK n p := by
  by_cases e187:n=187
  · subst e187
    by_cases c0:p<50
    · exact ⟨_, _, by omega, by omega, by decide, l187_0⟩
    by_cases c50:p<100
    · exact ⟨_, _, by omega, by omega, by decide, l187_50⟩
    by_cases c100:p<150
    · exact ⟨_, _, by omega, by omega, by decide, l187_100⟩
    exact ⟨_, _, by omega, by omega, by decide, l187_150⟩
  by_cases e188:n=188
  · subst e188
    by_cases c0:p<50
    · exact ⟨_, _, by omega, by omega, by decide, l188_0⟩
    by_cases c50:p<100
    · exact ⟨_, _, by omega, by omega, by decide, l188_50⟩
    by_cases c100:p<150
    · exact ⟨_, _, by omega, by omega, by decide, l188_100⟩
    exact ⟨_, _, by omega, by omega, by decide, l188_150⟩
  by_cases e189:n=189
  · subst e189
    by_cases c0:p<50
    · exact ⟨_, _, by omega, by omega, by decide, l189_0⟩
    by_cases c50:p<100
    · exact ⟨_, _, by omega, by omega, by decide, l189_50⟩
    by_cases c100:p<150
    · exact ⟨_, _, by omega, by omega, by decide, l189_100⟩
    exact ⟨_, _, by omega, by omega, by decide, l189_150⟩
  by_cases e190:n=190
  · subst e190
    by_cases c0:p<50
    · exact ⟨_, _, by omega, by omega, by decide, l190_0⟩
    by_cases c50:p<100
    · exact ⟨_, _, by omega, by omega, by decide, l190_50⟩
    by_cases c100:p<150
    · exact ⟨_, _, by omega, by omega, by decide, l190_100⟩
    exact ⟨_, _, by omega, by omega, by decide, l190_150⟩
  exact absurd h2 (by omega)
end Go.Ev.YtnelgnghdioapaaGreatDoor
