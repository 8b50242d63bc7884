/- What is run of FillLate, 23. -/
import Derived.Test.YtnelgnghdioapaaGreatDoorLY
import Derived.KernelRfl
namespace Go.Ev.YtnelgnghdioapaaGreatDoor
open Go Go.Ev
set_option maxRecDepth 100000
theorem h176:latQ (.int .i64 176) (.oth (.iv .i64 176 9223372036854775807))=true := by kernel_rfl
theorem l176_0:latQ (.int .i64 176) (.oth (.iv .i64 0 49))=true := by kernel_rfl
theorem l176_50:latQ (.int .i64 176) (.oth (.iv .i64 50 99))=true := by kernel_rfl
theorem l176_100:latQ (.int .i64 176) (.oth (.iv .i64 100 149))=true := by kernel_rfl
theorem l176_150:latQ (.int .i64 176) (.oth (.iv .i64 150 175))=true := by kernel_rfl
theorem h177:latQ (.int .i64 177) (.oth (.iv .i64 177 9223372036854775807))=true := by kernel_rfl
theorem l177_0:latQ (.int .i64 177) (.oth (.iv .i64 0 49))=true := by kernel_rfl
theorem l177_50:latQ (.int .i64 177) (.oth (.iv .i64 50 99))=true := by kernel_rfl
theorem l177_100:latQ (.int .i64 177) (.oth (.iv .i64 100 149))=true := by kernel_rfl
theorem l177_150:latQ (.int .i64 177) (.oth (.iv .i64 150 176))=true := by kernel_rfl
theorem h178:latQ (.int .i64 178) (.oth (.iv .i64 178 9223372036854775807))=true := by kernel_rfl
theorem l178_0:latQ (.int .i64 178) (.oth (.iv .i64 0 49))=true := by kernel_rfl
theorem l178_50:latQ (.int .i64 178) (.oth (.iv .i64 50 99))=true := by kernel_rfl
theorem l178_100:latQ (.int .i64 178) (.oth (.iv .i64 100 149))=true := by kernel_rfl
theorem l178_150:latQ (.int .i64 178) (.oth (.iv .i64 150 177))=true := by kernel_rfl
theorem h179:latQ (.int .i64 179) (.oth (.iv .i64 179 9223372036854775807))=true := by kernel_rfl
theorem l179_0:latQ (.int .i64 179) (.oth (.iv .i64 0 49))=true := by kernel_rfl
theorem l179_50:latQ (.int .i64 179) (.oth (.iv .i64 50 99))=true := by kernel_rfl
theorem l179_100:latQ (.int .i64 179) (.oth (.iv .i64 100 149))=true := by kernel_rfl
theorem l179_150:latQ (.int .i64 179) (.oth (.iv .i64 150 178))=true := by kernel_rfl
theorem hi23 (n:Nat) (h1:176≤n) (h2:n<180):latQ (.int .i64 n) (.oth (.iv .i64 n 9223372036854775807))=true := by
  by_cases e176:n=176
  · subst e176; exact h176
  by_cases e177:n=177
  · subst e177; exact h177
  by_cases e178:n=178
  · subst e178; exact h178
  by_cases e179:n=179
  · subst e179; exact h179
  exact absurd h2 (by omega)
theorem late23 (n p:Nat) (h1:176≤n) (h2:n<180) (h:p<n):LatOK n p := by
  by_cases e176:n=176
  · subst e176
    by_cases c0:p<50
    · exact ⟨_, _, by omega, by omega, by decide, l176_0⟩
    by_cases c50:p<100
    · exact ⟨_, _, by omega, by omega, by decide, l176_50⟩
    by_cases c100:p<150
    · exact ⟨_, _, by omega, by omega, by decide, l176_100⟩
    exact ⟨_, _, by omega, by omega, by decide, l176_150⟩
  by_cases e177:n=177
  · subst e177
    by_cases c0:p<50
    · exact ⟨_, _, by omega, by omega, by decide, l177_0⟩
    by_cases c50:p<100
    · exact ⟨_, _, by omega, by omega, by decide, l177_50⟩
    by_cases c100:p<150
    · exact ⟨_, _, by omega, by omega, by decide, l177_100⟩
    exact ⟨_, _, by omega, by omega, by decide, l177_150⟩
  by_cases e178:n=178
  · subst e178
    by_cases c0:p<50
    · exact ⟨_, _, by omega, by omega, by decide, l178_0⟩
    by_cases c50:p<100
    · exact ⟨_, _, by omega, by omega, by decide, l178_50⟩
    by_cases c100:p<150
    · exact ⟨_, _, by omega, by omega, by decide, l178_100⟩
    exact ⟨_, _, by omega, by omega, by decide, l178_150⟩
  by_cases e179:n=179
  · subst e179
    by_cases c0:p<50
    · exact ⟨_, _, by omega, by omega, by decide, l179_0⟩
    by_cases c50:p<100
    · exact ⟨_, _, by omega, by omega, by decide, l179_50⟩
    by_cases c100:p<150
    · exact ⟨_, _, by omega, by omega, by decide, l179_100⟩
    exact ⟨_, _, by omega, by omega, by decide, l179_150⟩
  exact absurd h2 (by omega)
end Go.Ev.YtnelgnghdioapaaGreatDoor
