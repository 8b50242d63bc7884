/- What is run of FillLate, 8. -/
import Derived.Test.YtnelgnghdioapaaGreatDoorLY
import Derived.KernelRfl
namespace Go.Ev.YtnelgnghdioapaaGreatDoor
open Go Go.Ev
set_option maxRecDepth 100000
theorem h103:latQ (.int .i64 103) (.oth (.iv .i64 103 9223372036854775807))=true := by kernel_rfl
theorem l103_0:latQ (.int .i64 103) (.oth (.iv .i64 0 49))=true := by kernel_rfl
theorem l103_50:latQ (.int .i64 103) (.oth (.iv .i64 50 99))=true := by kernel_rfl
theorem l103_100:latQ (.int .i64 103) (.oth (.iv .i64 100 102))=true := by kernel_rfl
theorem h104:latQ (.int .i64 104) (.oth (.iv .i64 104 9223372036854775807))=true := by kernel_rfl
theorem l104_0:latQ (.int .i64 104) (.oth (.iv .i64 0 49))=true := by kernel_rfl
theorem l104_50:latQ (.int .i64 104) (.oth (.iv .i64 50 99))=true := by kernel_rfl
theorem l104_100:latQ (.int .i64 104) (.oth (.iv .i64 100 103))=true := by kernel_rfl
theorem h105:latQ (.int .i64 105) (.oth (.iv .i64 105 9223372036854775807))=true := by kernel_rfl
theorem l105_0:latQ (.int .i64 105) (.oth (.iv .i64 0 49))=true := by kernel_rfl
theorem l105_50:latQ (.int .i64 105) (.oth (.iv .i64 50 99))=true := by kernel_rfl
theorem l105_100:latQ (.int .i64 105) (.oth (.iv .i64 100 104))=true := by kernel_rfl
theorem h106:latQ (.int .i64 106) (.oth (.iv .i64 106 9223372036854775807))=true := by kernel_rfl
theorem l106_0:latQ (.int .i64 106) (.oth (.iv .i64 0 49))=true := by kernel_rfl
theorem l106_50:latQ (.int .i64 106) (.oth (.iv .i64 50 99))=true := by kernel_rfl
theorem l106_100:latQ (.int .i64 106) (.oth (.iv .i64 100 105))=true := by kernel_rfl
theorem h107:latQ (.int .i64 107) (.oth (.iv .i64 107 9223372036854775807))=true := by kernel_rfl
theorem l107_0:latQ (.int .i64 107) (.oth (.iv .i64 0 49))=true := by kernel_rfl
theorem l107_50:latQ (.int .i64 107) (.oth (.iv .i64 50 99))=true := by kernel_rfl
theorem l107_100:latQ (.int .i64 107) (.oth (.iv .i64 100 106))=true := by kernel_rfl
theorem h108:latQ (.int .i64 108) (.oth (.iv .i64 108 9223372036854775807))=true := by kernel_rfl
theorem l108_0:latQ (.int .i64 108) (.oth (.iv .i64 0 49))=true := by kernel_rfl
theorem l108_50:latQ (.int .i64 108) (.oth (.iv .i64 50 99))=true := by kernel_rfl
theorem l108_100:latQ (.int .i64 108) (.oth (.iv .i64 100 107))=true := by kernel_rfl
theorem hi8 (n:Nat) (h1:103≤n) (h2:n<109):latQ (.int .i64 n) (.oth (.iv .i64 n 9223372036854775807))=true := by
  by_cases e103:n=103
  · subst e103; exact h103
  by_cases e104:n=104
  · subst e104; exact h104
  by_cases e105:n=105
  · subst e105; exact h105
  by_cases e106:n=106
  · subst e106; exact h106
  by_cases e107:n=107
  · subst e107; exact h107
  by_cases e108:n=108
  · subst e108; exact h108
  exact absurd h2 (by omega)
theorem late8 (n p:Nat) (h1:103≤n) (h2:n<109) (h:p<n):LatOK n p := by
  by_cases e103:n=103
  · subst e103
    by_cases c0:p<50
    · exact ⟨_, _, by omega, by omega, by decide, l103_0⟩
    by_cases c50:p<100
    · exact ⟨_, _, by omega, by omega, by decide, l103_50⟩
    exact ⟨_, _, by omega, by omega, by decide, l103_100⟩
  by_cases e104:n=104
  · subst e104
    by_cases c0:p<50
    · exact ⟨_, _, by omega, by omega, by decide, l104_0⟩
    by_cases c50:p<100
    · exact ⟨_, _, by omega, by omega, by decide, l104_50⟩
    exact ⟨_, _, by omega, by omega, by decide, l104_100⟩
  by_cases e105:n=105
  · subst e105
    by_cases c0:p<50
    · exact ⟨_, _, by omega, by omega, by decide, l105_0⟩
    by_cases c50:p<100
    · exact ⟨_, _, by omega, by omega, by decide, l105_50⟩
    exact ⟨_, _, by omega, by omega, by decide, l105_100⟩
  by_cases e106:n=106
  · subst e106
    by_cases c0:p<50
    · exact ⟨_, _, by omega, by omega, by decide, l106_0⟩
    by_cases c50:p<100
    · exact ⟨_, _, by omega, by omega, by decide, l106_50⟩
    exact ⟨_, _, by omega, by omega, by decide, l106_100⟩
  by_cases e107:n=107
  · subst e107
    by_cases c0:p<50
    · exact ⟨_, _, by omega, by omega, by decide, l107_0⟩
    by_cases c50:p<100
    · exact ⟨_, _, by omega, by omega, by decide, l107_50⟩
    exact ⟨_, _, by omega, by omega, by decide, l107_100⟩
  by_cases e108:n=108
  · subst e108
    by_cases c0:p<50
    · exact ⟨_, _, by omega, by omega, by decide, l108_0⟩
    by_cases c50:p<100
    · exact ⟨_, _, by omega, by omega, by decide, l108_50⟩
    exact ⟨_, _, by omega, by omega, by decide, l108_100⟩
  exact absurd h2 (by omega)
end Go.Ev.YtnelgnghdioapaaGreatDoor
