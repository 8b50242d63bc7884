/- What is run of FillLate, 20. -/
import Derived.Test.YtnelgnghdioapaaGreatDoorLY
import Derived.KernelRfl
namespace Go.Ev.YtnelgnghdioapaaGreatDoor
open Go Go.Ev
set_option maxRecDepth 100000
theorem h164:latQ (.int .i64 164) (.oth (.iv .i64 164 9223372036854775807))=true := by kernel_rfl
theorem l164_0:latQ (.int .i64 164) (.oth (.iv .i64 0 49))=true := by kernel_rfl
theorem l164_50:latQ (.int .i64 164) (.oth (.iv .i64 50 99))=true := by kernel_rfl
theorem l164_100:latQ (.int .i64 164) (.oth (.iv .i64 100 149))=true := by kernel_rfl
theorem l164_150:latQ (.int .i64 164) (.oth (.iv .i64 150 163))=true := by kernel_rfl
theorem h165:latQ (.int .i64 165) (.oth (.iv .i64 165 9223372036854775807))=true := by kernel_rfl
theorem l165_0:latQ (.int .i64 165) (.oth (.iv .i64 0 49))=true := by kernel_rfl
theorem l165_50:latQ (.int .i64 165) (.oth (.iv .i64 50 99))=true := by kernel_rfl
theorem l165_100:latQ (.int .i64 165) (.oth (.iv .i64 100 149))=true := by kernel_rfl
theorem l165_150:latQ (.int .i64 165) (.oth (.iv .i64 150 164))=true := by kernel_rfl
theorem h166:latQ (.int .i64 166) (.oth (.iv .i64 166 9223372036854775807))=true := by kernel_rfl
theorem l166_0:latQ (.int .i64 166) (.oth (.iv .i64 0 49))=true := by kernel_rfl
theorem l166_50:latQ (.int .i64 166) (.oth (.iv .i64 50 99))=true := by kernel_rfl
theorem l166_100:latQ (.int .i64 166) (.oth (.iv .i64 100 149))=true := by kernel_rfl
theorem l166_150:latQ (.int .i64 166) (.oth (.iv .i64 150 165))=true := by kernel_rfl
theorem h167:latQ (.int .i64 167) (.oth (.iv .i64 167 9223372036854775807))=true := by kernel_rfl
theorem l167_0:latQ (.int .i64 167) (.oth (.iv .i64 0 49))=true := by kernel_rfl
theorem l167_50:latQ (.int .i64 167) (.oth (.iv .i64 50 99))=true := by kernel_rfl
theorem l167_100:latQ (.int .i64 167) (.oth (.iv .i64 100 149))=true := by kernel_rfl
theorem l167_150:latQ (.int .i64 167) (.oth (.iv .i64 150 166))=true := by kernel_rfl
theorem hi20 (n:Nat) (h1:164≤n) (h2:n<168):latQ (.int .i64 n) (.oth (.iv .i64 n 9223372036854775807))=true := by
  by_cases e164:n=164
  · subst e164; exact h164
  by_cases e165:n=165
  · subst e165; exact h165
  by_cases e166:n=166
  · subst e166; exact h166
  by_cases e167:n=167
  · subst e167; exact h167
  exact absurd h2 (by omega)
theorem late20 (n p:Nat) (h1:164≤n) (h2:n<168) (h:p<n):LatOK n p := by
  by_cases e164:n=164
  · subst e164
    by_cases c0:p<50
    · exact ⟨_, _, by omega, by omega, by decide, l164_0⟩
    by_cases c50:p<100
    · exact ⟨_, _, by omega, by omega, by decide, l164_50⟩
    by_cases c100:p<150
    · exact ⟨_, _, by omega, by omega, by decide, l164_100⟩
    exact ⟨_, _, by omega, by omega, by decide, l164_150⟩
  by_cases e165:n=165
  · subst e165
    by_cases c0:p<50
    · exact ⟨_, _, by omega, by omega, by decide, l165_0⟩
    by_cases c50:p<100
    · exact ⟨_, _, by omega, by omega, by decide, l165_50⟩
    by_cases c100:p<150
    · exact ⟨_, _, by omega, by omega, by decide, l165_100⟩
    exact ⟨_, _, by omega, by omega, by decide, l165_150⟩
  by_cases e166:n=166
  · subst e166
    by_cases c0:p<50
    · exact ⟨_, _, by omega, by omega, by decide, l166_0⟩
    by_cases c50:p<100
    · exact ⟨_, _, by omega, by omega, by decide, l166_50⟩
    by_cases c100:p<150
    · exact ⟨_, _, by omega, by omega, by decide, l166_100⟩
    exact ⟨_, _, by omega, by omega, by decide, l166_150⟩
  by_cases e167:n=167
  · subst e167
    by_cases c0:p<50
    · exact ⟨_, _, by omega, by omega, by decide, l167_0⟩
    by_cases c50:p<100
    · exact ⟨_, _, by omega, by omega, by decide, l167_50⟩
    by_cases c100:p<150
    · exact ⟨_, _, by omega, by omega, by decide, l167_100⟩
    exact ⟨_, _, by omega, by omega, by decide, l167_150⟩
  exact absurd h2 (by omega)
end Go.Ev.YtnelgnghdioapaaGreatDoor
