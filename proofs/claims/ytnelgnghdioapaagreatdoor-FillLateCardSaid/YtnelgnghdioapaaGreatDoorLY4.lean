/- What is run of FillLate, 4. -/
import Derived.Test.YtnelgnghdioapaaGreatDoorLY
import Derived.KernelRfl
namespace Go.Ev.YtnelgnghdioapaaGreatDoor
open Go Go.Ev
set_option maxRecDepth 100000
theorem h72:latQ (.int .i64 72) (.oth (.iv .i64 72 9223372036854775807))=true := by kernel_rfl
theorem l72_0:latQ (.int .i64 72) (.oth (.iv .i64 0 49))=true := by kernel_rfl
theorem l72_50:latQ (.int .i64 72) (.oth (.iv .i64 50 71))=true := by kernel_rfl
theorem h73:latQ (.int .i64 73) (.oth (.iv .i64 73 9223372036854775807))=true := by kernel_rfl
theorem l73_0:latQ (.int .i64 73) (.oth (.iv .i64 0 49))=true := by kernel_rfl
theorem l73_50:latQ (.int .i64 73) (.oth (.iv .i64 50 72))=true := by kernel_rfl
theorem h74:latQ (.int .i64 74) (.oth (.iv .i64 74 9223372036854775807))=true := by kernel_rfl
theorem l74_0:latQ (.int .i64 74) (.oth (.iv .i64 0 49))=true := by kernel_rfl
theorem l74_50:latQ (.int .i64 74) (.oth (.iv .i64 50 73))=true := by kernel_rfl
theorem h75:latQ (.int .i64 75) (.oth (.iv .i64 75 9223372036854775807))=true := by kernel_rfl
theorem l75_0:latQ (.int .i64 75) (.oth (.iv .i64 0 49))=true := by kernel_rfl
theorem l75_50:latQ (.int .i64 75) (.oth (.iv .i64 50 74))=true := by kernel_rfl
theorem h76:latQ (.int .i64 76) (.oth (.iv .i64 76 9223372036854775807))=true := by kernel_rfl
theorem l76_0:latQ (.int .i64 76) (.oth (.iv .i64 0 49))=true := by kernel_rfl
theorem l76_50:latQ (.int .i64 76) (.oth (.iv .i64 50 75))=true := by kernel_rfl
theorem h77:latQ (.int .i64 77) (.oth (.iv .i64 77 9223372036854775807))=true := by kernel_rfl
theorem l77_0:latQ (.int .i64 77) (.oth (.iv .i64 0 49))=true := by kernel_rfl
theorem l77_50:latQ (.int .i64 77) (.oth (.iv .i64 50 76))=true := by kernel_rfl
theorem h78:latQ (.int .i64 78) (.oth (.iv .i64 78 9223372036854775807))=true := by kernel_rfl
theorem l78_0:latQ (.int .i64 78) (.oth (.iv .i64 0 49))=true := by kernel_rfl
theorem l78_50:latQ (.int .i64 78) (.oth (.iv .i64 50 77))=true := by kernel_rfl
theorem h79:latQ (.int .i64 79) (.oth (.iv .i64 79 9223372036854775807))=true := by kernel_rfl
theorem l79_0:latQ (.int .i64 79) (.oth (.iv .i64 0 49))=true := by kernel_rfl
theorem l79_50:latQ (.int .i64 79) (.oth (.iv .i64 50 78))=true := by kernel_rfl
theorem h80:latQ (.int .i64 80) (.oth (.iv .i64 80 9223372036854775807))=true := by kernel_rfl
theorem l80_0:latQ (.int .i64 80) (.oth (.iv .i64 0 49))=true := by kernel_rfl
theorem l80_50:latQ (.int .i64 80) (.oth (.iv .i64 50 79))=true := by kernel_rfl
theorem hi4 (n:Nat) (h1:72≤n) (h2:n<81):latQ (.int .i64 n) (.oth (.iv .i64 n 9223372036854775807))=true := by
  by_cases e72:n=72
  · subst e72; exact h72
  by_cases e73:n=73
  · subst e73; exact h73
  by_cases e74:n=74
  · subst e74; exact h74
  by_cases e75:n=75
  · subst e75; exact h75
  by_cases e76:n=76
  · subst e76; exact h76
  by_cases e77:n=77
  · subst e77; exact h77
  by_cases e78:n=78
  · subst e78; exact h78
  by_cases e79:n=79
  · subst e79; exact h79
  by_cases e80:n=80
  · subst e80; exact h80
  exact absurd h2 (by omega)
theorem late4 (n p:Nat) (h1:72≤n) (h2:n<81) (h:p<n):LatOK n p := by
  by_cases e72:n=72
  · subst e72
    by_cases c0:p<50
    · exact ⟨_, _, by omega, by omega, by decide, l72_0⟩
    exact ⟨_, _, by omega, by omega, by decide, l72_50⟩
  by_cases e73:n=73
  · subst e73
    by_cases c0:p<50
    · exact ⟨_, _, by omega, by omega, by decide, l73_0⟩
    exact ⟨_, _, by omega, by omega, by decide, l73_50⟩
  by_cases e74:n=74
  · subst e74
    by_cases c0:p<50
    · exact ⟨_, _, by omega, by omega, by decide, l74_0⟩
    exact ⟨_, _, by omega, by omega, by decide, l74_50⟩
  by_cases e75:n=75
  · subst e75
    by_cases c0:p<50
    · exact ⟨_, _, by omega, by omega, by decide, l75_0⟩
    exact ⟨_, _, by omega, by omega, by decide, l75_50⟩
  by_cases e76:n=76
  · subst e76
    by_cases c0:p<50
    · exact ⟨_, _, by omega, by omega, by decide, l76_0⟩
    exact ⟨_, _, by omega, by omega, by decide, l76_50⟩
  by_cases e77:n=77
  · subst e77
    by_cases c0:p<50
    · exact ⟨_, _, by omega, by omega, by decide, l77_0⟩
    exact ⟨_, _, by omega, by omega, by decide, l77_50⟩
  by_cases e78:n=78
  · subst e78
    by_cases c0:p<50
    · exact ⟨_, _, by omega, by omega, by decide, l78_0⟩
    exact ⟨_, _, by omega, by omega, by decide, l78_50⟩
  by_cases e79:n=79
  · subst e79
    by_cases c0:p<50
    · exact ⟨_, _, by omega, by omega, by decide, l79_0⟩
    exact ⟨_, _, by omega, by omega, by decide, l79_50⟩
  by_cases e80:n=80
  · subst e80
    by_cases c0:p<50
    · exact ⟨_, _, by omega, by omega, by decide, l80_0⟩
    exact ⟨_, _, by omega, by omega, by decide, l80_50⟩
  exact absurd h2 (by omega)
end Go.Ev.YtnelgnghdioapaaGreatDoor
