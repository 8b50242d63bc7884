/- What is run of FillLate, 21. -/
import Derived.Test.YtnelgnghdioapaaGreatDoorLY
import Derived.KernelRfl
namespace Go.Ev.YtnelgnghdioapaaGreatDoor
open Go Go.Ev
set_option maxRecDepth 100000
theorem h168:latQ (.int .i64 168) (.oth (.iv .i64 168 9223372036854775807))=true := by kernel_rfl
theorem l168_0:latQ (.int .i64 168) (.oth (.iv .i64 0 49))=true := by kernel_rfl
theorem l168_50:latQ (.int .i64 168) (.oth (.iv .i64 50 99))=true := by kernel_rfl
theorem l168_100:latQ (.int .i64 168) (.oth (.iv .i64 100 149))=true := by kernel_rfl
theorem l168_150:latQ (.int .i64 168) (.oth (.iv .i64 150 167))=true := by kernel_rfl
theorem h169:latQ (.int .i64 169) (.oth (.iv .i64 169 9223372036854775807))=true := by kernel_rfl
theorem l169_0:latQ (.int .i64 169) (.oth (.iv .i64 0 49))=true := by kernel_rfl
theorem l169_50:latQ (.int .i64 169) (.oth (.iv .i64 50 99))=true := by kernel_rfl
theorem l169_100:latQ (.int .i64 169) (.oth (.iv .i64 100 149))=true := by kernel_rfl
theorem l169_150:latQ (.int .i64 169) (.oth (.iv .i64 150 168))=true := by kernel_rfl
theorem h170:latQ (.int .i64 170) (.oth (.iv .i64 170 9223372036854775807))=true := by kernel_rfl
theorem l170_0:latQ (.int .i64 170) (.oth (.iv .i64 0 49))=true := by kernel_rfl
theorem l170_50:latQ (.int .i64 170) (.oth (.iv .i64 50 99))=true := by kernel_rfl
theorem l170_100:latQ (.int .i64 170) (.oth (.iv .i64 100 149))=true := by kernel_rfl
theorem l170_150:latQ (.int .i64 170) (.oth (.iv .i64 150 169))=true := by kernel_rfl
theorem h171:latQ (.int .i64 171) (.oth (.iv .i64 171 9223372036854775807))=true := by kernel_rfl
theorem l171_0:latQ (.int .i64 171) (.oth (.iv .i64 0 49))=true := by kernel_rfl
theorem l171_50:latQ (.int .i64 171) (.oth (.iv .i64 50 99))=true := by kernel_rfl
theorem l171_100:latQ (.int .i64 171) (.oth (.iv .i64 100 149))=true := by kernel_rfl
theorem l171_150:latQ (.int .i64 171) (.oth (.iv .i64 150 170))=true := by kernel_rfl
theorem hi21 (n:Nat) (h1:168≤n) (h2:n<172):latQ (.int .i64 n) (.oth (.iv .i64 n 9223372036854775807))=true := by
  by_cases e168:n=168
  · subst e168; exact h168
  by_cases e169:n=169
  · subst e169; exact h169
  by_cases e170:n=170
  · subst e170; exact h170
  by_cases e171:n=171
  · subst e171; exact h171
  exact absurd h2 (by omega)
theorem late21 (n p:Nat) (h1:168≤n) (h2:n<172) (h:p<n):LatOK n p := by
  by_cases e168:n=168
  · subst e168
    by_cases c0:p<50
    · exact ⟨_, _, by omega, by omega, by decide, l168_0⟩
    by_cases c50:p<100
    · exact ⟨_, _, by omega, by omega, by decide, l168_50⟩
    by_cases c100:p<150
    · exact ⟨_, _, by omega, by omega, by decide, l168_100⟩
    exact ⟨_, _, by omega, by omega, by decide, l168_150⟩
  by_cases e169:n=169
  · subst e169
    by_cases c0:p<50
    · exact ⟨_, _, by omega, by omega, by decide, l169_0⟩
    by_cases c50:p<100
    · exact ⟨_, _, by omega, by omega, by decide, l169_50⟩
    by_cases c100:p<150
    · exact ⟨_, _, by omega, by omega, by decide, l169_100⟩
    exact ⟨_, _, by omega, by omega, by decide, l169_150⟩
  by_cases e170:n=170
  · subst e170
    by_cases c0:p<50
    · exact ⟨_, _, by omega, by omega, by decide, l170_0⟩
    by_cases c50:p<100
    · exact ⟨_, _, by omega, by omega, by decide, l170_50⟩
    by_cases c100:p<150
    · exact ⟨_, _, by omega, by omega, by decide, l170_100⟩
    exact ⟨_, _, by omega, by omega, by decide, l170_150⟩
  by_cases e171:n=171
  · subst e171
    by_cases c0:p<50
    · exact ⟨_, _, by omega, by omega, by decide, l171_0⟩
    by_cases c50:p<100
    · exact ⟨_, _, by omega, by omega, by decide, l171_50⟩
    by_cases c100:p<150
    · exact ⟨_, _, by omega, by omega, by decide, l171_100⟩
    exact ⟨_, _, by omega, by omega, by decide, l171_150⟩
  exact absurd h2 (by omega)
end Go.Ev.YtnelgnghdioapaaGreatDoor
