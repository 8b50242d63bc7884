/- What is run of FillLate, 15. -/
import Derived.Test.YtnelgnghdioapaaGreatDoorLY
import Derived.KernelRfl
namespace Go.Ev.YtnelgnghdioapaaGreatDoor
open Go Go.Ev
set_option maxRecDepth 100000
theorem h142:latQ (.int .i64 142) (.oth (.iv .i64 142 9223372036854775807))=true := by kernel_rfl
theorem l142_0:latQ (.int .i64 142) (.oth (.iv .i64 0 49))=true := by kernel_rfl
theorem l142_50:latQ (.int .i64 142) (.oth (.iv .i64 50 99))=true := by kernel_rfl
theorem l142_100:latQ (.int .i64 142) (.oth (.iv .i64 100 141))=true := by kernel_rfl
theorem h143:latQ (.int .i64 143) (.oth (.iv .i64 143 9223372036854775807))=true := by kernel_rfl
theorem l143_0:latQ (.int .i64 143) (.oth (.iv .i64 0 49))=true := by kernel_rfl
theorem l143_50:latQ (.int .i64 143) (.oth (.iv .i64 50 99))=true := by kernel_rfl
theorem l143_100:latQ (.int .i64 143) (.oth (.iv .i64 100 142))=true := by kernel_rfl
theorem h144:latQ (.int .i64 144) (.oth (.iv .i64 144 9223372036854775807))=true := by kernel_rfl
theorem l144_0:latQ (.int .i64 144) (.oth (.iv .i64 0 49))=true := by kernel_rfl
theorem l144_50:latQ (.int .i64 144) (.oth (.iv .i64 50 99))=true := by kernel_rfl
theorem l144_100:latQ (.int .i64 144) (.oth (.iv .i64 100 143))=true := by kernel_rfl
theorem h145:latQ (.int .i64 145) (.oth (.iv .i64 145 9223372036854775807))=true := by kernel_rfl
theorem l145_0:latQ (.int .i64 145) (.oth (.iv .i64 0 49))=true := by kernel_rfl
theorem l145_50:latQ (.int .i64 145) (.oth (.iv .i64 50 99))=true := by kernel_rfl
theorem l145_100:latQ (.int .i64 145) (.oth (.iv .i64 100 144))=true := by kernel_rfl
theorem hi15 (n:Nat) (h1:142≤n) (h2:n<146):latQ (.int .i64 n) (.oth (.iv .i64 n 9223372036854775807))=true := by
  by_cases e142:n=142
  · subst e142; exact h142
  by_cases e143:n=143
  · subst e143; exact h143
  by_cases e144:n=144
  · subst e144; exact h144
  by_cases e145:n=145
  · subst e145; exact h145
  exact absurd h2 (by omega)
theorem late15 (n p:Nat) (h1:142≤n) (h2:n<146) (h:p<n):LatOK n p := by
  by_cases e142:n=142
  · subst e142
    by_cases c0:p<50
    · exact ⟨_, _, by omega, by omega, by decide, l142_0⟩
    by_cases c50:p<100
    · exact ⟨_, _, by omega, by omega, by decide, l142_50⟩
    exact ⟨_, _, by omega, by omega, by decide, l142_100⟩
  by_cases e143:n=143
  · subst e143
    by_cases c0:p<50
    · exact ⟨_, _, by omega, by omega, by decide, l143_0⟩
    by_cases c50:p<100
    · exact ⟨_, _, by omega, by omega, by decide, l143_50⟩
    exact ⟨_, _, by omega, by omega, by decide, l143_100⟩
  by_cases e144:n=144
  · subst e144
    by_cases c0:p<50
    · exact ⟨_, _, by omega, by omega, by decide, l144_0⟩
    by_cases c50:p<100
    · exact ⟨_, _, by omega, by omega, by decide, l144_50⟩
    exact ⟨_, _, by omega, by omega, by decide, l144_100⟩
  by_cases e145:n=145
  · subst e145
    by_cases c0:p<50
    · exact ⟨_, _, by omega, by omega, by decide, l145_0⟩
    by_cases c50:p<100
    · exact ⟨_, _, by omega, by omega, by decide, l145_50⟩
    exact ⟨_, _, by omega, by omega, by decide, l145_100⟩
  exact absurd h2 (by omega)
end Go.Ev.YtnelgnghdioapaaGreatDoor
