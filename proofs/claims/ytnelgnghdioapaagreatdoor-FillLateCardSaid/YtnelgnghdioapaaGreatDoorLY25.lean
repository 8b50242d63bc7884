/- What is run of FillLate, 25. -/
import Derived.Test.YtnelgnghdioapaaGreatDoorLY
import Derived.KernelRfl
namespace Go.Ev.YtnelgnghdioapaaGreatDoor
open Go Go.Ev
set_option maxRecDepth 100000
theorem h184:latQ (.int .i64 184) (.oth (.iv .i64 184 9223372036854775807))=true := by kernel_rfl
theorem l184_0:latQ (.int .i64 184) (.oth (.iv .i64 0 49))=true := by kernel_rfl
theorem l184_50:latQ (.int .i64 184) (.oth (.iv .i64 50 99))=true := by kernel_rfl
theorem l184_100:latQ (.int .i64 184) (.oth (.iv .i64 100 149))=true := by kernel_rfl
theorem l184_150:latQ (.int .i64 184) (.oth (.iv .i64 150 183))=true := by kernel_rfl
theorem h185:latQ (.int .i64 185) (.oth (.iv .i64 185 9223372036854775807))=true := by kernel_rfl
theorem l185_0:latQ (.int .i64 185) (.oth (.iv .i64 0 49))=true := by kernel_rfl
theorem l185_50:latQ (.int .i64 185) (.oth (.iv .i64 50 99))=true := by kernel_rfl
theorem l185_100:latQ (.int .i64 185) (.oth (.iv .i64 100 149))=true := by kernel_rfl
theorem l185_150:latQ (.int .i64 185) (.oth (.iv .i64 150 184))=true := by kernel_rfl
theorem h186:latQ (.int .i64 186) (.oth (.iv .i64 186 9223372036854775807))=true := by kernel_rfl
theorem l186_0:latQ (.int .i64 186) (.oth (.iv .i64 0 49))=true := by kernel_rfl
theorem l186_50:latQ (.int .i64 186) (.oth (.iv .i64 50 99))=true := by kernel_rfl
theorem l186_100:latQ (.int .i64 186) (.oth (.iv .i64 100 149))=true := by kernel_rfl
theorem l186_150:latQ (.int .i64 186) (.oth (.iv .i64 150 185))=true := by kernel_rfl
theorem hi25 (n:Nat) (h1:184≤n) (h2:n<187):latQ (.int .i64 n) (.oth (.iv .i64 n 9223372036854775807))=true := by
  by_cases e184:n=184
  · subst e184; exact h184
  by_cases e185:n=185
  · subst e185; exact h185
  by_cases e186:n=186
  · subst e186; exact h186
  exact absurd h2 (by omega)
theorem late25 (n p:Nat) (h1:184≤n) (h2:n<187) (h:p<n):LatOK n p := by
  by_cases e184:n=184
  · subst e184
    by_cases c0:p<50
    · exact ⟨_, _, by omega, by omega, by decide, l184_0⟩
    by_cases c50:p<100
    · exact ⟨_, _, by omega, by omega, by decide, l184_50⟩
    by_cases c100:p<150
    · exact ⟨_, _, by omega, by omega, by decide, l184_100⟩
    exact ⟨_, _, by omega, by omega, by decide, l184_150⟩
  by_cases e185:n=185
  · subst e185
    by_cases c0:p<50
    · exact ⟨_, _, by omega, by omega, by decide, l185_0⟩
    by_cases c50:p<100
    · exact ⟨_, _, by omega, by omega, by decide, l185_50⟩
    by_cases c100:p<150
    · exact ⟨_, _, by omega, by omega, by decide, l185_100⟩
    exact ⟨_, _, by omega, by omega, by decide, l185_150⟩
  by_cases e186:n=186
  · subst e186
    by_cases c0:p<50
    · exact ⟨_, _, by omega, by omega, by decide, l186_0⟩
    by_cases c50:p<100
    · exact ⟨_, _, by omega, by omega, by decide, l186_50⟩
    by_cases c100:p<150
    · exact ⟨_, _, by omega, by omega, by decide, l186_100⟩
    exact ⟨_, _, by omega, by omega, by decide, l186_150⟩
  exact absurd h2 (by omega)
end Go.Ev.YtnelgnghdioapaaGreatDoor
