/- What is run of FillLate, 17. -/
import Derived.Test.YtnelgnghdioapaaGreatDoorLY
import Derived.KernelRfl
namespace Go.Ev.YtnelgnghdioapaaGreatDoor
open Go Go.Ev
set_option maxRecDepth 100000
theorem h151:latQ (.int .i64 151) (.oth (.iv .i64 151 9223372036854775807))=true := by kernel_rfl
theorem l151_0:latQ (.int .i64 151) (.oth (.iv .i64 0 49))=true := by kernel_rfl
theorem l151_50:latQ (.int .i64 151) (.oth (.iv .i64 50 99))=true := by kernel_rfl
theorem l151_100:latQ (.int .i64 151) (.oth (.iv .i64 100 149))=true := by kernel_rfl
theorem l151_150:latQ (.int .i64 151) (.oth (.iv .i64 150 150))=true := by kernel_rfl
theorem h152:latQ (.int .i64 152) (.oth (.iv .i64 152 9223372036854775807))=true := by kernel_rfl
theorem l152_0:latQ (.int .i64 152) (.oth (.iv .i64 0 49))=true := by kernel_rfl
theorem l152_50:latQ (.int .i64 152) (.oth (.iv .i64 50 99))=true := by kernel_rfl
theorem l152_100:latQ (.int .i64 152) (.oth (.iv .i64 100 149))=true := by kernel_rfl
theorem l152_150:latQ (.int .i64 152) (.oth (.iv .i64 150 151))=true := by kernel_rfl
theorem h153:latQ (.int .i64 153) (.oth (.iv .i64 153 9223372036854775807))=true := by kernel_rfl
theorem l153_0:latQ (.int .i64 153) (.oth (.iv .i64 0 49))=true := by kernel_rfl
theorem l153_50:latQ (.int .i64 153) (.oth (.iv .i64 50 99))=true := by kernel_rfl
theorem l153_100:latQ (.int .i64 153) (.oth (.iv .i64 100 149))=true := by kernel_rfl
theorem l153_150:latQ (.int .i64 153) (.oth (.iv .i64 150 152))=true := by kernel_rfl
theorem h154:latQ (.int .i64 154) (.oth (.iv .i64 154 9223372036854775807))=true := by kernel_rfl
theorem l154_0:latQ (.int .i64 154) (.oth (.iv .i64 0 49))=true := by kernel_rfl
theorem l154_50:latQ (.int .i64 154) (.oth (.iv .i64 50 99))=true := by kernel_rfl
theorem l154_100:latQ (.int .i64 154) (.oth (.iv .i64 100 149))=true := by kernel_rfl
theorem l154_150:latQ (.int .i64 154) (.oth (.iv .i64 150 153))=true := by kernel_rfl
theorem hi17 (n:Nat) (h1:151≤n) (h2:n<155):latQ (.int .i64 n) (.oth (.iv .i64 n 9223372036854775807))=true := by
  by_cases e151:n=151
  · subst e151; exact h151
  by_cases e152:n=152
  · subst e152; exact h152
  by_cases e153:n=153
  · subst e153; exact h153
  by_cases e154:n=154
  · subst e154; exact h154
  exact absurd h2 (by omega)
theorem late17 (n p:Nat) (h1:151≤n) (h2:n<155) (h:p<n):LatOK n p := by
  by_cases e151:n=151
  · subst e151
    by_cases c0:p<50
    · exact ⟨_, _, by omega, by omega, by decide, l151_0⟩
    by_cases c50:p<100
    · exact ⟨_, _, by omega, by omega, by decide, l151_50⟩
    by_cases c100:p<150
    · exact ⟨_, _, by omega, by omega, by decide, l151_100⟩
    exact ⟨_, _, by omega, by omega, by decide, l151_150⟩
  by_cases e152:n=152
  · subst e152
    by_cases c0:p<50
    · exact ⟨_, _, by omega, by omega, by decide, l152_0⟩
    by_cases c50:p<100
    · exact ⟨_, _, by omega, by omega, by decide, l152_50⟩
    by_cases c100:p<150
    · exact ⟨_, _, by omega, by omega, by decide, l152_100⟩
    exact ⟨_, _, by omega, by omega, by decide, l152_150⟩
  by_cases e153:n=153
  · subst e153
    by_cases c0:p<50
    · exact ⟨_, _, by omega, by omega, by decide, l153_0⟩
    by_cases c50:p<100
    · exact ⟨_, _, by omega, by omega, by decide, l153_50⟩
    by_cases c100:p<150
    · exact ⟨_, _, by omega, by omega, by decide, l153_100⟩
    exact ⟨_, _, by omega, by omega, by decide, l153_150⟩
  by_cases e154:n=154
  · subst e154
    by_cases c0:p<50
    · exact ⟨_, _, by omega, by omega, by decide, l154_0⟩
    by_cases c50:p<100
    · exact ⟨_, _, by omega, by omega, by decide, l154_50⟩
    by_cases c100:p<150
    · exact ⟨_, _, by omega, by omega, by decide, l154_100⟩
    exact ⟨_, _, by omega, by omega, by decide, l154_150⟩
  exact absurd h2 (by omega)
end Go.Ev.YtnelgnghdioapaaGreatDoor
