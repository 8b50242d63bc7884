/- What is run of FillLate, 28. -/
import Derived.Test.YtnelgnghdioapaaGreatDoorLY
import Derived.KernelRfl
namespace Go.Ev.YtnelgnghdioapaaGreatDoor
open Go Go.Ev
set_option maxRecDepth 100000
theorem h195:latQ (.int .i64 195) (.oth (.iv .i64 195 9223372036854775807))=true := by kernel_rfl
theorem l195_0:latQ (.int .i64 195) (.oth (.iv .i64 0 49))=true := by kernel_rfl
theorem l195_50:latQ (.int .i64 195) (.oth (.iv .i64 50 99))=true := by kernel_rfl
theorem l195_100:latQ (.int .i64 195) (.oth (.iv .i64 100 149))=true := by kernel_rfl
theorem l195_150:latQ (.int .i64 195) (.oth (.iv .i64 150 194))=true := by kernel_rfl
theorem h196:latQ (.int .i64 196) (.oth (.iv .i64 196 9223372036854775807))=true := by kernel_rfl
theorem l196_0:latQ (.int .i64 196) (.oth (.iv .i64 0 49))=true := by kernel_rfl
theorem l196_50:latQ (.int .i64 196) (.oth (.iv .i64 50 99))=true := by kernel_rfl
theorem l196_100:latQ (.int .i64 196) (.oth (.iv .i64 100 149))=true := by kernel_rfl
theorem l196_150:latQ (.int .i64 196) (.oth (.iv .i64 150 195))=true := by kernel_rfl
theorem h197:latQ (.int .i64 197) (.oth (.iv .i64 197 9223372036854775807))=true := by kernel_rfl
theorem l197_0:latQ (.int .i64 197) (.oth (.iv .i64 0 49))=true := by kernel_rfl
theorem l197_50:latQ (.int .i64 197) (.oth (.iv .i64 50 99))=true := by kernel_rfl
theorem l197_100:latQ (.int .i64 197) (.oth (.iv .i64 100 149))=true := by kernel_rfl
theorem l197_150:latQ (.int .i64 197) (.oth (.iv .i64 150 196))=true := by kernel_rfl
theorem hi28 (n:Nat) (h1:195≤n) (h2:n<198):latQ (.int .i64 n) (.oth (.iv .i64 n 9223372036854775807))=true := by
  by_cases e195:n=195
  · subst e195; exact h195
  by_cases e196:n=196
  · subst e196; exact h196
  by_cases e197:n=197
  · subst e197; exact h197
  exact absurd h2 (by omega)
theorem late28 (n p:Nat) (h1:195≤n) (h2:n<198) (h:p<n):LatOK n p := by
  by_cases e195:n=195
  · subst e195
    by_cases c0:p<50
    · exact ⟨_, _, by omega, by omega, by decide, l195_0⟩
    by_cases c50:p<100
    · exact ⟨_, _, by omega, by omega, by decide, l195_50⟩
    by_cases c100:p<150
    · exact ⟨_, _, by omega, by omega, by decide, l195_100⟩
    exact ⟨_, _, by omega, by omega, by decide, l195_150⟩
  by_cases e196:n=196
  · subst e196
    by_cases c0:p<50
    · exact ⟨_, _, by omega, by omega, by decide, l196_0⟩
    by_cases c50:p<100
    · exact ⟨_, _, by omega, by omega, by decide, l196_50⟩
    by_cases c100:p<150
    · exact ⟨_, _, by omega, by omega, by decide, l196_100⟩
    exact ⟨_, _, by omega, by omega, by decide, l196_150⟩
  by_cases e197:n=197
  · subst e197
    by_cases c0:p<50
    · exact ⟨_, _, by omega, by omega, by decide, l197_0⟩
    by_cases c50:p<100
    · exact ⟨_, _, by omega, by omega, by decide, l197_50⟩
    by_cases c100:p<150
    · exact ⟨_, _, by omega, by omega, by decide, l197_100⟩
    exact ⟨_, _, by omega, by omega, by decide, l197_150⟩
  exact absurd h2 (by omega)
end Go.Ev.YtnelgnghdioapaaGreatDoor
