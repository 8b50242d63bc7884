/- What is run of FillLate, 16. -/
import Derived.Test.YtnelgnghdioapaaGreatDoorLY
import Derived.KernelRfl
namespace Go.Ev.YtnelgnghdioapaaGreatDoor
open Go Go.Ev
set_option maxRecDepth 100000
theorem h146:latQ (.int .i64 146) (.oth (.iv .i64 146 9223372036854775807))=true := by kernel_rfl
theorem l146_0:latQ (.int .i64 146) (.oth (.iv .i64 0 49))=true := by kernel_rfl
theorem l146_50:latQ (.int .i64 146) (.oth (.iv .i64 50 99))=true := by kernel_rfl
theorem l146_100:latQ (.int .i64 146) (.oth (.iv .i64 100 145))=true := by kernel_rfl
theorem h147:latQ (.int .i64 147) (.oth (.iv .i64 147 9223372036854775807))=true := by kernel_rfl
theorem l147_0:latQ (.int .i64 147) (.oth (.iv .i64 0 49))=true := by kernel_rfl
theorem l147_50:latQ (.int .i64 147) (.oth (.iv .i64 50 99))=true := by kernel_rfl
theorem l147_100:latQ (.int .i64 147) (.oth (.iv .i64 100 146))=true := by kernel_rfl
theorem h148:latQ (.int .i64 148) (.oth (.iv .i64 148 9223372036854775807))=true := by kernel_rfl
theorem l148_0:latQ (.int .i64 148) (.oth (.iv .i64 0 49))=true := by kernel_rfl
theorem l148_50:latQ (.int .i64 148) (.oth (.iv .i64 50 99))=true := by kernel_rfl
theorem l148_100:latQ (.int .i64 148) (.oth (.iv .i64 100 147))=true := by kernel_rfl
theorem h149:latQ (.int .i64 149) (.oth (.iv .i64 149 9223372036854775807))=true := by kernel_rfl
theorem l149_0:latQ (.int .i64 149) (.oth (.iv .i64 0 49))=true := by kernel_rfl
theorem l149_50:latQ (.int .i64 149) (.oth (.iv .i64 50 99))=true := by kernel_rfl
theorem l149_100:latQ (.int .i64 149) (.oth (.iv .i64 100 148))=true := by kernel_rfl
theorem h150:latQ (.int .i64 150) (.oth (.iv .i64 150 9223372036854775807))=true := by kernel_rfl
theorem l150_0:latQ (.int .i64 150) (.oth (.iv .i64 0 49))=true := by kernel_rfl
theorem l150_50:latQ (.int .i64 150) (.oth (.iv .i64 50 99))=true := by kernel_rfl
theorem l150_100:latQ (.int .i64 150) (.oth (.iv .i64 100 149))=true := by kernel_rfl
theorem hi16 (n:Nat) (h1:146≤n) (h2:n<151):latQ (.int .i64 n) (.oth (.iv .i64 n 9223372036854775807))=true := by
  by_cases e146:n=146
  · subst e146; exact h146
  by_cases e147:n=147
  · subst e147; exact h147
  by_cases e148:n=148
  · subst e148; exact h148
  by_cases e149:n=149
  · subst e149; exact h149
  by_cases e150:n=150
  · subst e150; exact h150
  exact absurd h2 (by omega)
theorem late16 (n p:Nat) (h1:146≤n) (h2:n<151) (h:p<n):LatOK n p := by
  by_cases e146:n=146
  · subst e146
    by_cases c0:p<50
    · exact ⟨_, _, by omega, by omega, by decide, l146_0⟩
    by_cases c50:p<100
    · exact ⟨_, _, by omega, by omega, by decide, l146_50⟩
    exact ⟨_, _, by omega, by omega, by decide, l146_100⟩
  by_cases e147:n=147
  · subst e147
    by_cases c0:p<50
    · exact ⟨_, _, by omega, by omega, by decide, l147_0⟩
    by_cases c50:p<100
    · exact ⟨_, _, by omega, by omega, by decide, l147_50⟩
    exact ⟨_, _, by omega, by omega, by decide, l147_100⟩
  by_cases e148:n=148
  · subst e148
    by_cases c0:p<50
    · exact ⟨_, _, by omega, by omega, by decide, l148_0⟩
    by_cases c50:p<100
    · exact ⟨_, _, by omega, by omega, by decide, l148_50⟩
    exact ⟨_, _, by omega, by omega, by decide, l148_100⟩
  by_cases e149:n=149
  · subst e149
    by_cases c0:p<50
    · exact ⟨_, _, by omega, by omega, by decide, l149_0⟩
    by_cases c50:p<100
    · exact ⟨_, _, by omega, by omega, by decide, l149_50⟩
    exact ⟨_, _, by omega, by omega, by decide, l149_100⟩
  by_cases e150:n=150
  · subst e150
    by_cases c0:p<50
    · exact ⟨_, _, by omega, by omega, by decide, l150_0⟩
    by_cases c50:p<100
    · exact ⟨_, _, by omega, by omega, by decide, l150_50⟩
    exact ⟨_, _, by omega, by omega, by decide, l150_100⟩
  exact absurd h2 (by omega)
end Go.Ev.YtnelgnghdioapaaGreatDoor
