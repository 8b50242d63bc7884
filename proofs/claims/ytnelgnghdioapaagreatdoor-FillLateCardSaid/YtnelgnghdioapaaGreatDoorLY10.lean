/- What is run of FillLate, 10. -/
import Derived.Test.YtnelgnghdioapaaGreatDoorLY
import Derived.KernelRfl
namespace Go.Ev.YtnelgnghdioapaaGreatDoor
open Go Go.Ev
set_option maxRecDepth 100000
theorem h115:latQ (.int .i64 115) (.oth (.iv .i64 115 9223372036854775807))=true := by kernel_rfl
theorem l115_0:latQ (.int .i64 115) (.oth (.iv .i64 0 49))=true := by kernel_rfl
theorem l115_50:latQ (.int .i64 115) (.oth (.iv .i64 50 99))=true := by kernel_rfl
theorem l115_100:latQ (.int .i64 115) (.oth (.iv .i64 100 114))=true := by kernel_rfl
theorem h116:latQ (.int .i64 116) (.oth (.iv .i64 116 9223372036854775807))=true := by kernel_rfl
theorem l116_0:latQ (.int .i64 116) (.oth (.iv .i64 0 49))=true := by kernel_rfl
theorem l116_50:latQ (.int .i64 116) (.oth (.iv .i64 50 99))=true := by kernel_rfl
theorem l116_100:latQ (.int .i64 116) (.oth (.iv .i64 100 115))=true := by kernel_rfl
theorem h117:latQ (.int .i64 117) (.oth (.iv .i64 117 9223372036854775807))=true := by kernel_rfl
theorem l117_0:latQ (.int .i64 117) (.oth (.iv .i64 0 49))=true := by kernel_rfl
theorem l117_50:latQ (.int .i64 117) (.oth (.iv .i64 50 99))=true := by kernel_rfl
theorem l117_100:latQ (.int .i64 117) (.oth (.iv .i64 100 116))=true := by kernel_rfl
theorem h118:latQ (.int .i64 118) (.oth (.iv .i64 118 9223372036854775807))=true := by kernel_rfl
theorem l118_0:latQ (.int .i64 118) (.oth (.iv .i64 0 49))=true := by kernel_rfl
theorem l118_50:latQ (.int .i64 118) (.oth (.iv .i64 50 99))=true := by kernel_rfl
theorem l118_100:latQ (.int .i64 118) (.oth (.iv .i64 100 117))=true := by kernel_rfl
theorem h119:latQ (.int .i64 119) (.oth (.iv .i64 119 9223372036854775807))=true := by kernel_rfl
theorem l119_0:latQ (.int .i64 119) (.oth (.iv .i64 0 49))=true := by kernel_rfl
theorem l119_50:latQ (.int .i64 119) (.oth (.iv .i64 50 99))=true := by kernel_rfl
theorem l119_100:latQ (.int .i64 119) (.oth (.iv .i64 100 118))=true := by kernel_rfl
theorem h120:latQ (.int .i64 120) (.oth (.iv .i64 120 9223372036854775807))=true := by kernel_rfl
theorem l120_0:latQ (.int .i64 120) (.oth (.iv .i64 0 49))=true := by kernel_rfl
theorem l120_50:latQ (.int .i64 120) (.oth (.iv .i64 50 99))=true := by kernel_rfl
theorem l120_100:latQ (.int .i64 120) (.oth (.iv .i64 100 119))=true := by kernel_rfl
theorem hi10 (n:Nat) (h1:115≤n) (h2:n<121):latQ (.int .i64 n) (.oth (.iv .i64 n 9223372036854775807))=true := by
  by_cases e115:n=115
  · subst e115; exact h115
  by_cases e116:n=116
  · subst e116; exact h116
  by_cases e117:n=117
  · subst e117; exact h117
  by_cases e118:n=118
  · subst e118; exact h118
  by_cases e119:n=119
  · subst e119; exact h119
  by_cases e120:n=120
  · subst e120; exact h120
  exact absurd h2 (by omega)
theorem late10 (n p:Nat) (h1:115≤n) (h2:n<121) (h:p<n):LatOK n p := by
  by_cases e115:n=115
  · subst e115
    by_cases c0:p<50
    · exact ⟨_, _, by omega, by omega, by decide, l115_0⟩
    by_cases c50:p<100
    · exact ⟨_, _, by omega, by omega, by decide, l115_50⟩
    exact ⟨_, _, by omega, by omega, by decide, l115_100⟩
  by_cases e116:n=116
  · subst e116
    by_cases c0:p<50
    · exact ⟨_, _, by omega, by omega, by decide, l116_0⟩
    by_cases c50:p<100
    · exact ⟨_, _, by omega, by omega, by decide, l116_50⟩
    exact ⟨_, _, by omega, by omega, by decide, l116_100⟩
  by_cases e117:n=117
  · subst e117
    by_cases c0:p<50
    · exact ⟨_, _, by omega, by omega, by decide, l117_0⟩
    by_cases c50:p<100
    · exact ⟨_, _, by omega, by omega, by decide, l117_50⟩
    exact ⟨_, _, by omega, by omega, by decide, l117_100⟩
  by_cases e118:n=118
  · subst e118
    by_cases c0:p<50
    · exact ⟨_, _, by omega, by omega, by decide, l118_0⟩
    by_cases c50:p<100
    · exact ⟨_, _, by omega, by omega, by decide, l118_50⟩
    exact ⟨_, _, by omega, by omega, by decide, l118_100⟩
  by_cases e119:n=119
  · subst e119
    by_cases c0:p<50
    · exact ⟨_, _, by omega, by omega, by decide, l119_0⟩
    by_cases c50:p<100
    · exact ⟨_, _, by omega, by omega, by decide, l119_50⟩
    exact ⟨_, _, by omega, by omega, by decide, l119_100⟩
  by_cases e120:n=120
  · subst e120
    by_cases c0:p<50
    · exact ⟨_, _, by omega, by omega, by decide, l120_0⟩
    by_cases c50:p<100
    · exact ⟨_, _, by omega, by omega, by decide, l120_50⟩
    exact ⟨_, _, by omega, by omega, by decide, l120_100⟩
  exact absurd h2 (by omega)
end Go.Ev.YtnelgnghdioapaaGreatDoor
