/- What is run of FillLate, 7. -/
import Derived.Test.YtnelgnghdioapaaGreatDoorLY
import Derived.KernelRfl
namespace Go.Ev.YtnelgnghdioapaaGreatDoor
open Go Go.Ev
set_option maxRecDepth 100000
theorem h96:latQ (.int .i64 96) (.oth (.iv .i64 96 9223372036854775807))=true := by kernel_rfl
theorem l96_0:latQ (.int .i64 96) (.oth (.iv .i64 0 49))=true := by kernel_rfl
theorem l96_50:latQ (.int .i64 96) (.oth (.iv .i64 50 95))=true := by kernel_rfl
theorem h97:latQ (.int .i64 97) (.oth (.iv .i64 97 9223372036854775807))=true := by kernel_rfl
theorem l97_0:latQ (.int .i64 97) (.oth (.iv .i64 0 49))=true := by kernel_rfl
theorem l97_50:latQ (.int .i64 97) (.oth (.iv .i64 50 96))=true := by kernel_rfl
theorem h98:latQ (.int .i64 98) (.oth (.iv .i64 98 9223372036854775807))=true := by kernel_rfl
theorem l98_0:latQ (.int .i64 98) (.oth (.iv .i64 0 49))=true := by kernel_rfl
theorem l98_50:latQ (.int .i64 98) (.oth (.iv .i64 50 97))=true := by kernel_rfl
theorem h99:latQ (.int .i64 99) (.oth (.iv .i64 99 9223372036854775807))=true := by kernel_rfl
theorem l99_0:latQ (.int .i64 99) (.oth (.iv .i64 0 49))=true := by kernel_rfl
theorem l99_50:latQ (.int .i64 99) (.oth (.iv .i64 50 98))=true := by kernel_rfl
theorem h100:latQ (.int .i64 100) (.oth (.iv .i64 100 9223372036854775807))=true := by kernel_rfl
theorem l100_0:latQ (.int .i64 100) (.oth (.iv .i64 0 49))=true := by kernel_rfl
theorem l100_50:latQ (.int .i64 100) (.oth (.iv .i64 50 99))=true := by kernel_rfl
theorem h101:latQ (.int .i64 101) (.oth (.iv .i64 101 9223372036854775807))=true := by kernel_rfl
theorem l101_0:latQ (.int .i64 101) (.oth (.iv .i64 0 49))=true := by kernel_rfl
theorem l101_50:latQ (.int .i64 101) (.oth (.iv .i64 50 99))=true := by kernel_rfl
theorem l101_100:latQ (.int .i64 101) (.oth (.iv .i64 100 100))=true := by kernel_rfl
theorem h102:latQ (.int .i64 102) (.oth (.iv .i64 102 9223372036854775807))=true := by kernel_rfl
theorem l102_0:latQ (.int .i64 102) (.oth (.iv .i64 0 49))=true := by kernel_rfl
theorem l102_50:latQ (.int .i64 102) (.oth (.iv .i64 50 99))=true := by kernel_rfl
theorem l102_100:latQ (.int .i64 102) (.oth (.iv .i64 100 101))=true := by kernel_rfl
theorem hi7 (n:Nat) (h1:96≤n) (h2:n<103):latQ (.int .i64 n) (.oth (.iv .i64 n 9223372036854775807))=true := by
  by_cases e96:n=96
  · subst e96; exact h96
  by_cases e97:n=97
  · subst e97; exact h97
  by_cases e98:n=98
  · subst e98; exact h98
  by_cases e99:n=99
  · subst e99; exact h99
  by_cases e100:n=100
  · subst e100; exact h100
  by_cases e101:n=101
  · subst e101; exact h101
  by_cases e102:n=102
  · subst e102; exact h102
  exact absurd h2 (by omega)
theorem late7 (n p:Nat) (h1:96≤n) (h2:n<103) (h:p<n):LatOK n p := by
  by_cases e96:n=96
  · subst e96
    by_cases c0:p<50
    · exact ⟨_, _, by omega, by omega, by decide, l96_0⟩
    exact ⟨_, _, by omega, by omega, by decide, l96_50⟩
  by_cases e97:n=97
  · subst e97
    by_cases c0:p<50
    · exact ⟨_, _, by omega, by omega, by decide, l97_0⟩
    exact ⟨_, _, by omega, by omega, by decide, l97_50⟩
  by_cases e98:n=98
  · subst e98
    by_cases c0:p<50
    · exact ⟨_, _, by omega, by omega, by decide, l98_0⟩
    exact ⟨_, _, by omega, by omega, by decide, l98_50⟩
  by_cases e99:n=99
  · subst e99
    by_cases c0:p<50
    · exact ⟨_, _, by omega, by omega, by decide, l99_0⟩
    exact ⟨_, _, by omega, by omega, by decide, l99_50⟩
  by_cases e100:n=100
  · subst e100
    by_cases c0:p<50
    · exact ⟨_, _, by omega, by omega, by decide, l100_0⟩
    exact ⟨_, _, by omega, by omega, by decide, l100_50⟩
  by_cases e101:n=101
  · subst e101
    by_cases c0:p<50
    · exact ⟨_, _, by omega, by omega, by decide, l101_0⟩
    by_cases c50:p<100
    · exact ⟨_, _, by omega, by omega, by decide, l101_50⟩
    exact ⟨_, _, by omega, by omega, by decide, l101_100⟩
  by_cases e102:n=102
  · subst e102
    by_cases c0:p<50
    · exact ⟨_, _, by omega, by omega, by decide, l102_0⟩
    by_cases c50:p<100
    · exact ⟨_, _, by omega, by omega, by decide, l102_50⟩
    exact ⟨_, _, by omega, by omega, by decide, l102_100⟩
  exact absurd h2 (by omega)
end Go.Ev.YtnelgnghdioapaaGreatDoor
