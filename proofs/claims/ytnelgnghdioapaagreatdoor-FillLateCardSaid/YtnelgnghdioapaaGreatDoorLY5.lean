/- What is run of FillLate, 5. -/
import Derived.Test.YtnelgnghdioapaaGreatDoorLY
import Derived.KernelRfl
namespace Go.Ev.YtnelgnghdioapaaGreatDoor
open Go Go.Ev
set_option maxRecDepth 100000
theorem h81:latQ (.int .i64 81) (.oth (.iv .i64 81 9223372036854775807))=true := by kernel_rfl
theorem l81_0:latQ (.int .i64 81) (.oth (.iv .i64 0 49))=true := by kernel_rfl
theorem l81_50:latQ (.int .i64 81) (.oth (.iv .i64 50 80))=true := by kernel_rfl
theorem h82:latQ (.int .i64 82) (.oth (.iv .i64 82 9223372036854775807))=true := by kernel_rfl
theorem l82_0:latQ (.int .i64 82) (.oth (.iv .i64 0 49))=true := by kernel_rfl
theorem l82_50:latQ (.int .i64 82) (.oth (.iv .i64 50 81))=true := by kernel_rfl
theorem h83:latQ (.int .i64 83) (.oth (.iv .i64 83 9223372036854775807))=true := by kernel_rfl
theorem l83_0:latQ (.int .i64 83) (.oth (.iv .i64 0 49))=true := by kernel_rfl
theorem l83_50:latQ (.int .i64 83) (.oth (.iv .i64 50 82))=true := by kernel_rfl
theorem h84:latQ (.int .i64 84) (.oth (.iv .i64 84 9223372036854775807))=true := by kernel_rfl
theorem l84_0:latQ (.int .i64 84) (.oth (.iv .i64 0 49))=true := by kernel_rfl
theorem l84_50:latQ (.int .i64 84) (.oth (.iv .i64 50 83))=true := by kernel_rfl
theorem h85:latQ (.int .i64 85) (.oth (.iv .i64 85 9223372036854775807))=true := by kernel_rfl
theorem l85_0:latQ (.int .i64 85) (.oth (.iv .i64 0 49))=true := by kernel_rfl
theorem l85_50:latQ (.int .i64 85) (.oth (.iv .i64 50 84))=true := by kernel_rfl
theorem h86:latQ (.int .i64 86) (.oth (.iv .i64 86 9223372036854775807))=true := by kernel_rfl
theorem l86_0:latQ (.int .i64 86) (.oth (.iv .i64 0 49))=true := by kernel_rfl
theorem l86_50:latQ (.int .i64 86) (.oth (.iv .i64 50 85))=true := by kernel_rfl
theorem h87:latQ (.int .i64 87) (.oth (.iv .i64 87 9223372036854775807))=true := by kernel_rfl
theorem l87_0:latQ (.int .i64 87) (.oth (.iv .i64 0 49))=true := by kernel_rfl
theorem l87_50:latQ (.int .i64 87) (.oth (.iv .i64 50 86))=true := by kernel_rfl
theorem h88:latQ (.int .i64 88) (.oth (.iv .i64 88 9223372036854775807))=true := by kernel_rfl
theorem l88_0:latQ (.int .i64 88) (.oth (.iv .i64 0 49))=true := by kernel_rfl
theorem l88_50:latQ (.int .i64 88) (.oth (.iv .i64 50 87))=true := by kernel_rfl
theorem hi5 (n:Nat) (h1:81≤n) (h2:n<89):latQ (.int .i64 n) (.oth (.iv .i64 n 9223372036854775807))=true := by
  by_cases e81:n=81
  · subst e81; exact h81
  by_cases e82:n=82
  · subst e82; exact h82
  by_cases e83:n=83
  · subst e83; exact h83
  by_cases e84:n=84
  · subst e84; exact h84
  by_cases e85:n=85
  · subst e85; exact h85
  by_cases e86:n=86
  · subst e86; exact h86
  by_cases e87:n=87
  · subst e87; exact h87
  by_cases e88:n=88
  · subst e88; exact h88
  exact absurd h2 (by omega)
theorem late5 (n p:Nat) (h1:81≤n) (h2:n<89) (h:p<n):LatOK n p := by
  by_cases e81:n=81
  · subst e81
    by_cases c0:p<50
    · exact ⟨_, _, by omega, by omega, by decide, l81_0⟩
    exact ⟨_, _, by omega, by omega, by decide, l81_50⟩
  by_cases e82:n=82
  · subst e82
    by_cases c0:p<50
    · exact ⟨_, _, by omega, by omega, by decide, l82_0⟩
    exact ⟨_, _, by omega, by omega, by decide, l82_50⟩
  by_cases e83:n=83
  · subst e83
    by_cases c0:p<50
    · exact ⟨_, _, by omega, by omega, by decide, l83_0⟩
    exact ⟨_, _, by omega, by omega, by decide, l83_50⟩
  by_cases e84:n=84
  · subst e84
    by_cases c0:p<50
    · exact ⟨_, _, by omega, by omega, by decide, l84_0⟩
    exact ⟨_, _, by omega, by omega, by decide, l84_50⟩
  by_cases e85:n=85
  · subst e85
    by_cases c0:p<50
    · exact ⟨_, _, by omega, by omega, by decide, l85_0⟩
    exact ⟨_, _, by omega, by omega, by decide, l85_50⟩
  by_cases e86:n=86
  · subst e86
    by_cases c0:p<50
    · exact ⟨_, _, by omega, by omega, by decide, l86_0⟩
    exact ⟨_, _, by omega, by omega, by decide, l86_50⟩
  by_cases e87:n=87
  · subst e87
    by_cases c0:p<50
    · exact ⟨_, _, by omega, by omega, by decide, l87_0⟩
    exact ⟨_, _, by omega, by omega, by decide, l87_50⟩
  by_cases e88:n=88
  · subst e88
    by_cases c0:p<50
    · exact ⟨_, _, by omega, by omega, by decide, l88_0⟩
    exact ⟨_, _, by omega, by omega, by decide, l88_50⟩
  exact absurd h2 (by omega)
end Go.Ev.YtnelgnghdioapaaGreatDoor
