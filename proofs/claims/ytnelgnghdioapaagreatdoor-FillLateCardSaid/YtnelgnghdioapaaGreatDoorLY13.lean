/- What is run of FillLate, 13. -/
import Derived.Test.YtnelgnghdioapaaGreatDoorLY
import Derived.KernelRfl
namespace Go.Ev.YtnelgnghdioapaaGreatDoor
open Go Go.Ev
set_option maxRecDepth 100000
theorem h132:latQ (.int .i64 132) (.oth (.iv .i64 132 9223372036854775807))=true := by kernel_rfl
theorem l132_0:latQ (.int .i64 132) (.oth (.iv .i64 0 49))=true := by kernel_rfl
theorem l132_50:latQ (.int .i64 132) (.oth (.iv .i64 50 99))=true := by kernel_rfl
theorem l132_100:latQ (.int .i64 132) (.oth (.iv .i64 100 131))=true := by kernel_rfl
theorem h133:latQ (.int .i64 133) (.oth (.iv .i64 133 9223372036854775807))=true := by kernel_rfl
theorem l133_0:latQ (.int .i64 133) (.oth (.iv .i64 0 49))=true := by kernel_rfl
theorem l133_50:latQ (.int .i64 133) (.oth (.iv .i64 50 99))=true := by kernel_rfl
theorem l133_100:latQ (.int .i64 133) (.oth (.iv .i64 100 132))=true := by kernel_rfl
theorem h134:latQ (.int .i64 134) (.oth (.iv .i64 134 9223372036854775807))=true := by kernel_rfl
theorem l134_0:latQ (.int .i64 134) (.oth (.iv .i64 0 49))=true := by kernel_rfl
theorem l134_50:latQ (.int .i64 134) (.oth (.iv .i64 50 99))=true := by kernel_rfl
theorem l134_100:latQ (.int .i64 134) (.oth (.iv .i64 100 133))=true := by kernel_rfl
theorem h135:latQ (.int .i64 135) (.oth (.iv .i64 135 9223372036854775807))=true := by kernel_rfl
theorem l135_0:latQ (.int .i64 135) (.oth (.iv .i64 0 49))=true := by kernel_rfl
theorem l135_50:latQ (.int .i64 135) (.oth (.iv .i64 50 99))=true := by kernel_rfl
theorem l135_100:latQ (.int .i64 135) (.oth (.iv .i64 100 134))=true := by kernel_rfl
theorem h136:latQ (.int .i64 136) (.oth (.iv .i64 136 9223372036854775807))=true := by kernel_rfl
theorem l136_0:latQ (.int .i64 136) (.oth (.iv .i64 0 49))=true := by kernel_rfl
theorem l136_50:latQ (.int .i64 136) (.oth (.iv .i64 50 99))=true := by kernel_rfl
theorem l136_100:latQ (.int .i64 136) (.oth (.iv .i64 100 135))=true := by kernel_rfl
theorem hi13 (n:Nat) (h1:132≤n) (h2:n<137):latQ (.int .i64 n) (.oth (.iv .i64 n 9223372036854775807))=true := by
  by_cases e132:n=132
  · subst e132; exact h132
  by_cases e133:n=133
  · subst e133; exact h133
  by_cases e134:n=134
  · subst e134; exact h134
  by_cases e135:n=135
  · subst e135; exact h135
  by_cases e136:n=136
  · subst e136; exact h136
  exact absurd h2 (by omega)
theorem late13 (n p:Nat) (h1:132≤n) (h2:n<137) (h:p<n):LatOK n p := by
  by_cases e132:n=132
  · subst e132
    by_cases c0:p<50
    · exact ⟨_, _, by omega, by omega, by decide, l132_0⟩
    by_cases c50:p<100
    · exact ⟨_, _, by omega, by omega, by decide, l132_50⟩
    exact ⟨_, _, by omega, by omega, by decide, l132_100⟩
  by_cases e133:n=133
  · subst e133
    by_cases c0:p<50
    · exact ⟨_, _, by omega, by omega, by decide, l133_0⟩
    by_cases c50:p<100
    · exact ⟨_, _, by omega, by omega, by decide, l133_50⟩
    exact ⟨_, _, by omega, by omega, by decide, l133_100⟩
  by_cases e134:n=134
  · subst e134
    by_cases c0:p<50
    · exact ⟨_, _, by omega, by omega, by decide, l134_0⟩
    by_cases c50:p<100
    · exact ⟨_, _, by omega, by omega, by decide, l134_50⟩
    exact ⟨_, _, by omega, by omega, by decide, l134_100⟩
  by_cases e135:n=135
  · subst e135
    by_cases c0:p<50
    · exact ⟨_, _, by omega, by omega, by decide, l135_0⟩
    by_cases c50:p<100
    · exact ⟨_, _, by omega, by omega, by decide, l135_50⟩
    exact ⟨_, _, by omega, by omega, by decide, l135_100⟩
  by_cases e136:n=136
  · subst e136
    by_cases c0:p<50
    · exact ⟨_, _, by omega, by omega, by decide, l136_0⟩
    by_cases c50:p<100
    · exact ⟨_, _, by omega, by omega, by decide, l136_50⟩
    exact ⟨_, _, by omega, by omega, by decide, l136_100⟩
  exact absurd h2 (by omega)
end Go.Ev.YtnelgnghdioapaaGreatDoor
