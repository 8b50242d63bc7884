/- What is run of FillLate, 9. -/
import Derived.Test.YtnelgnghdioapaaGreatDoorLY
import Derived.KernelRfl
namespace Go.Ev.YtnelgnghdioapaaGreatDoor
open Go Go.Ev
set_option maxRecDepth 100000
theorem h109:latQ (.int .i64 109) (.oth (.iv .i64 109 9223372036854775807))=true := by kernel_rfl
theorem l109_0:latQ (.int .i64 109) (.oth (.iv .i64 0 49))=true := by kernel_rfl
theorem l109_50:latQ (.int .i64 109) (.oth (.iv .i64 50 99))=true := by kernel_rfl
theorem l109_100:latQ (.int .i64 109) (.oth (.iv .i64 100 108))=true := by kernel_rfl
theorem h110:latQ (.int .i64 110) (.oth (.iv .i64 110 9223372036854775807))=true := by kernel_rfl
theorem l110_0:latQ (.int .i64 110) (.oth (.iv .i64 0 49))=true := by kernel_rfl
theorem l110_50:latQ (.int .i64 110) (.oth (.iv .i64 50 99))=true := by kernel_rfl
theorem l110_100:latQ (.int .i64 110) (.oth (.iv .i64 100 109))=true := by kernel_rfl
theorem h111:latQ (.int .i64 111) (.oth (.iv .i64 111 9223372036854775807))=true := by kernel_rfl
theorem l111_0:latQ (.int .i64 111) (.oth (.iv .i64 0 49))=true := by kernel_rfl
theorem l111_50:latQ (.int .i64 111) (.oth (.iv .i64 50 99))=true := by kernel_rfl
theorem l111_100:latQ (.int .i64 111) (.oth (.iv .i64 100 110))=true := by kernel_rfl
theorem h112:latQ (.int .i64 112) (.oth (.iv .i64 112 9223372036854775807))=true := by kernel_rfl
theorem l112_0:latQ (.int .i64 112) (.oth (.iv .i64 0 49))=true := by kernel_rfl
theorem l112_50:latQ (.int .i64 112) (.oth (.iv .i64 50 99))=true := by kernel_rfl
theorem l112_100:latQ (.int .i64 112) (.oth (.iv .i64 100 111))=true := by kernel_rfl
theorem h113:latQ (.int .i64 113) (.oth (.iv .i64 113 9223372036854775807))=true := by kernel_rfl
theorem l113_0:latQ (.int .i64 113) (.oth (.iv .i64 0 49))=true := by kernel_rfl
theorem l113_50:latQ (.int .i64 113) (.oth (.iv .i64 50 99))=true := by kernel_rfl
theorem l113_100:latQ (.int .i64 113) (.oth (.iv .i64 100 112))=true := by kernel_rfl
theorem h114:latQ (.int .i64 114) (.oth (.iv .i64 114 9223372036854775807))=true := by kernel_rfl
theorem l114_0:latQ (.int .i64 114) (.oth (.iv .i64 0 49))=true := by kernel_rfl
theorem l114_50:latQ (.int .i64 114) (.oth (.iv .i64 50 99))=true := by kernel_rfl
theorem l114_100:latQ (.int .i64 114) (.oth (.iv .i64 100 113))=true := by kernel_rfl
theorem hi9 (n:Nat) (h1:109≤n) (h2:n<115):latQ (.int .i64 n) (.oth (.iv .i64 n 9223372036854775807))=true := by
  by_cases e109:n=109
  · subst e109; exact h109
  by_cases e110:n=110
  · subst e110; exact h110
  by_cases e111:n=111
  · subst e111; exact h111
  by_cases e112:n=112
  · subst e112; exact h112
  by_cases e113:n=113
  · subst e113; exact h113
  by_cases e114:n=114
  · subst e114; exact h114
  exact absurd h2 (by omega)
theorem late9 (n p:Nat) (h1:109≤n) (h2:n<115) (h:p<n):LatOK n p := by
  by_cases e109:n=109
  · subst e109
    by_cases c0:p<50
    · exact ⟨_, _, by omega, by omega, by decide, l109_0⟩
    by_cases c50:p<100
    · exact ⟨_, _, by omega, by omega, by decide, l109_50⟩
    exact ⟨_, _, by omega, by omega, by decide, l109_100⟩
  by_cases e110:n=110
  · subst e110
    by_cases c0:p<50
    · exact ⟨_, _, by omega, by omega, by decide, l110_0⟩
    by_cases c50:p<100
    · exact ⟨_, _, by omega, by omega, by decide, l110_50⟩
    exact ⟨_, _, by omega, by omega, by decide, l110_100⟩
  by_cases e111:n=111
  · subst e111
    by_cases c0:p<50
    · exact ⟨_, _, by omega, by omega, by decide, l111_0⟩
    by_cases c50:p<100
    · exact ⟨_, _, by omega, by omega, by decide, l111_50⟩
    exact ⟨_, _, by omega, by omega, by decide, l111_100⟩
  by_cases e112:n=112
  · subst e112
    by_cases c0:p<50
    · exact ⟨_, _, by omega, by omega, by decide, l112_0⟩
    by_cases c50:p<100
    · exact ⟨_, _, by omega, by omega, by decide, l112_50⟩
    exact ⟨_, _, by omega, by omega, by decide, l112_100⟩
  by_cases e113:n=113
  · subst e113
    by_cases c0:p<50
    · exact ⟨_, _, by omega, by omega, by decide, l113_0⟩
    by_cases c50:p<100
    · exact ⟨_, _, by omega, by omega, by decide, l113_50⟩
    exact ⟨_, _, by omega, by omega, by decide, l113_100⟩
  by_cases e114:n=114
  · subst e114
    by_cases c0:p<50
    · exact ⟨_, _, by omega, by omega, by decide, l114_0⟩
    by_cases c50:p<100
    · exact ⟨_, _, by omega, by omega, by decide, l114_50⟩
    exact ⟨_, _, by omega, by omega, by decide, l114_100⟩
  exact absurd h2 (by omega)
end Go.Ev.YtnelgnghdioapaaGreatDoor
