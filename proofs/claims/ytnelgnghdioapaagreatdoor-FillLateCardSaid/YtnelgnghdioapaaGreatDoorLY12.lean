/- What is run of FillLate, 12. -/
import Derived.Test.YtnelgnghdioapaaGreatDoorLY
import Derived.KernelRfl
namespace Go.Ev.YtnelgnghdioapaaGreatDoor
open Go Go.Ev
set_option maxRecDepth 100000
theorem h126:latQ (.int .i64 126) (.oth (.iv .i64 126 9223372036854775807))=true := by kernel_rfl
theorem l126_0:latQ (.int .i64 126) (.oth (.iv .i64 0 49))=true := by kernel_rfl
theorem l126_50:latQ (.int .i64 126) (.oth (.iv .i64 50 99))=true := by kernel_rfl
theorem l126_100:latQ (.int .i64 126) (.oth (.iv .i64 100 125))=true := by kernel_rfl
theorem h127:latQ (.int .i64 127) (.oth (.iv .i64 127 9223372036854775807))=true := by kernel_rfl
theorem l127_0:latQ (.int .i64 127) (.oth (.iv .i64 0 49))=true := by kernel_rfl
theorem l127_50:latQ (.int .i64 127) (.oth (.iv .i64 50 99))=true := by kernel_rfl
theorem l127_100:latQ (.int .i64 127) (.oth (.iv .i64 100 126))=true := by kernel_rfl
theorem h128:latQ (.int .i64 128) (.oth (.iv .i64 128 9223372036854775807))=true := by kernel_rfl
theorem l128_0:latQ (.int .i64 128) (.oth (.iv .i64 0 49))=true := by kernel_rfl
theorem l128_50:latQ (.int .i64 128) (.oth (.iv .i64 50 99))=true := by kernel_rfl
theorem l128_100:latQ (.int .i64 128) (.oth (.iv .i64 100 127))=true := by kernel_rfl
theorem h129:latQ (.int .i64 129) (.oth (.iv .i64 129 9223372036854775807))=true := by kernel_rfl
theorem l129_0:latQ (.int .i64 129) (.oth (.iv .i64 0 49))=true := by kernel_rfl
theorem l129_50:latQ (.int .i64 129) (.oth (.iv .i64 50 99))=true := by kernel_rfl
theorem l129_100:latQ (.int .i64 129) (.oth (.iv .i64 100 128))=true := by kernel_rfl
theorem h130:latQ (.int .i64 130) (.oth (.iv .i64 130 9223372036854775807))=true := by kernel_rfl
theorem l130_0:latQ (.int .i64 130) (.oth (.iv .i64 0 49))=true := by kernel_rfl
theorem l130_50:latQ (.int .i64 130) (.oth (.iv .i64 50 99))=true := by kernel_rfl
theorem l130_100:latQ (.int .i64 130) (.oth (.iv .i64 100 129))=true := by kernel_rfl
theorem h131:latQ (.int .i64 131) (.oth (.iv .i64 131 9223372036854775807))=true := by kernel_rfl
theorem l131_0:latQ (.int .i64 131) (.oth (.iv .i64 0 49))=true := by kernel_rfl
theorem l131_50:latQ (.int .i64 131) (.oth (.iv .i64 50 99))=true := by kernel_rfl
theorem l131_100:latQ (.int .i64 131) (.oth (.iv .i64 100 130))=true := by kernel_rfl
theorem hi12 (n:Nat) (h1:126≤n) (h2:n<132):latQ (.int .i64 n) (.oth (.iv .i64 n 9223372036854775807))=true := by
  by_cases e126:n=126
  · subst e126; exact h126
  by_cases e127:n=127
  · subst e127; exact h127
  by_cases e128:n=128
  · subst e128; exact h128
  by_cases e129:n=129
  · subst e129; exact h129
  by_cases e130:n=130
  · subst e130; exact h130
  by_cases e131:n=131
  · subst e131; exact h131
  exact absurd h2 (by omega)
theorem late12 (n p:Nat) (h1:126≤n) (h2:n<132) (h:p<n):LatOK n p := by
  by_cases e126:n=126
  · subst e126
    by_cases c0:p<50
    · exact ⟨_, _, by omega, by omega, by decide, l126_0⟩
    by_cases c50:p<100
    · exact ⟨_, _, by omega, by omega, by decide, l126_50⟩
    exact ⟨_, _, by omega, by omega, by decide, l126_100⟩
  by_cases e127:n=127
  · subst e127
    by_cases c0:p<50
    · exact ⟨_, _, by omega, by omega, by decide, l127_0⟩
    by_cases c50:p<100
    · exact ⟨_, _, by omega, by omega, by decide, l127_50⟩
    exact ⟨_, _, by omega, by omega, by decide, l127_100⟩
  by_cases e128:n=128
  · subst e128
    by_cases c0:p<50
    · exact ⟨_, _, by omega, by omega, by decide, l128_0⟩
    by_cases c50:p<100
    · exact ⟨_, _, by omega, by omega, by decide, l128_50⟩
    exact ⟨_, _, by omega, by omega, by decide, l128_100⟩
  by_cases e129:n=129
  · subst e129
    by_cases c0:p<50
    · exact ⟨_, _, by omega, by omega, by decide, l129_0⟩
    by_cases c50:p<100
    · exact ⟨_, _, by omega, by omega, by decide, l129_50⟩
    exact ⟨_, _, by omega, by omega, by decide, l129_100⟩
  by_cases e130:n=130
  · subst e130
    by_cases c0:p<50
    · exact ⟨_, _, by omega, by omega, by decide, l130_0⟩
    by_cases c50:p<100
    · exact ⟨_, _, by omega, by omega, by decide, l130_50⟩
    exact ⟨_, _, by omega, by omega, by decide, l130_100⟩
  by_cases e131:n=131
  · subst e131
    by_cases c0:p<50
    · exact ⟨_, _, by omega, by omega, by decide, l131_0⟩
    by_cases c50:p<100
    · exact ⟨_, _, by omega, by omega, by decide, l131_50⟩
    exact ⟨_, _, by omega, by omega, by decide, l131_100⟩
  exact absurd h2 (by omega)
end Go.Ev.YtnelgnghdioapaaGreatDoor
