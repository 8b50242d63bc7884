/- What is run of FillLate, 27. -/
import Derived.Test.YtnelgnghdioapaaGreatDoorLY
import Derived.KernelRfl
namespace Go.Ev.YtnelgnghdioapaaGreatDoor
open Go Go.Ev
set_option maxRecDepth 100000
theorem h191:latQ (.int .i64 191) (.oth (.iv .i64 191 9223372036854775807))=true := by kernel_rfl
theorem l191_0:latQ (.int .i64 191) (.oth (.iv .i64 0 49))=true := by kernel_rfl
theorem l191_50:latQ (.int .i64 191) (.oth (.iv .i64 50 99))=true := by kernel_rfl
theorem l191_100:latQ (.int .i64 191) (.oth (.iv .i64 100 149))=true := by kernel_rfl
theorem l191_150:latQ (.int .i64 191) (.oth (.iv .i64 150 190))=true := by kernel_rfl
theorem h192:latQ (.int .i64 192) (.oth (.iv .i64 192 9223372036854775807))=true := by kernel_rfl
theorem l192_0:latQ (.int .i64 192) (.oth (.iv .i64 0 49))=true := by kernel_rfl
theorem l192_50:latQ (.int .i64 192) (.oth (.iv .i64 50 99))=true := by kernel_rfl
theorem l192_100:latQ (.int .i64 192) (.oth (.iv .i64 100 149))=true := by kernel_rfl
theorem l192_150:latQ (.int .i64 192) (.oth (.iv .i64 150 191))=true := by kernel_rfl
theorem h193:latQ (.int .i64 193) (.oth (.iv .i64 193 9223372036854775807))=true := by kernel_rfl
theorem l193_0:latQ (.int .i64 193) (.oth (.iv .i64 0 49))=true := by kernel_rfl
theorem l193_50:latQ (.int .i64 193) (.oth (.iv .i64 50 99))=true := by kernel_rfl
theorem l193_100:latQ (.int .i64 193) (.oth (.iv .i64 100 149))=true := by kernel_rfl
theorem l193_150:latQ (.int .i64 193) (.oth (.iv .i64 150 192))=true := by kernel_rfl
theorem h194:latQ (.int .i64 194) (.oth (.iv .i64 194 9223372036854775807))=true := by kernel_rfl
theorem l194_0:latQ (.int .i64 194) (.oth (.iv .i64 0 49))=true := by kernel_rfl
theorem l194_50:latQ (.int .i64 194) (.oth (.iv .i64 50 99))=true := by kernel_rfl
theorem l194_100:latQ (.int .i64 194) (.oth (.iv .i64 100 149))=true := by kernel_rfl
theorem l194_150:latQ (.int .i64 194) (.oth (.iv .i64 150 193))=true := by kernel_rfl
theorem hi27 (n:Nat) (h1:191≤n) (h2:n<195):latQ (.int .i64 n) (.oth (.iv .i64 n 9223372036854775807))=true := by
  by_cases e191:n=191
  · subst e191; exact h191
  by_cases e192:n=192
  · subst e192; exact h192
  by_cases e193:n=193
  · subst e193; exact h193
  by_cases e194:n=194
  · subst e194; exact h194
  exact absurd h2 (by omega)
theorem late27 (n p:Nat) (h1:191≤n) (h2:n<195) (h:p<n):LatOK n p := by
  by_cases e191:n=191
  · subst e191
    by_cases c0:p<50
    · exact ⟨_, _, by omega, by omega, by decide, l191_0⟩
    by_cases c50:p<100
    · exact ⟨_, _, by omega, by omega, by decide, l191_50⟩
    by_cases c100:p<150
    · exact ⟨_, _, by omega, by omega, by decide, l191_100⟩
    exact ⟨_, _, by omega, by omega, by decide, l191_150⟩
  by_cases e192:n=192
  · subst e192
    by_cases c0:p<50
    · exact ⟨_, _, by omega, by omega, by decide, l192_0⟩
    by_cases c50:p<100
    · exact ⟨_, _, by omega, by omega, by decide, l192_50⟩
    by_cases c100:p<150
    · exact ⟨_, _, by omega, by omega, by decide, l192_100⟩
    exact ⟨_, _, by omega, by omega, by decide, l192_150⟩
  by_cases e193:n=193
  · subst e193
    by_cases c0:p<50
    · exact ⟨_, _, by omega, by omega, by decide, l193_0⟩
    by_cases c50:p<100
    · exact ⟨_, _, by omega, by omega, by decide, l193_50⟩
    by_cases c100:p<150
    · exact ⟨_, _, by omega, by omega, by decide, l193_100⟩
    exact ⟨_, _, by omega, by omega, by decide, l193_150⟩
  by_cases e194:n=194
  · subst e194
    by_cases c0:p<50
    · exact ⟨_, _, by omega, by omega, by decide, l194_0⟩
    by_cases c50:p<100
    · exact ⟨_, _, by omega, by omega, by decide, l194_50⟩
    by_cases c100:p<150
    · exact ⟨_, _, by omega, by omega, by decide, l194_100⟩
    exact ⟨_, _, by omega, by omega, by decide, l194_150⟩
  exact absurd h2 (by omega)
end Go.Ev.YtnelgnghdioapaaGreatDoor
