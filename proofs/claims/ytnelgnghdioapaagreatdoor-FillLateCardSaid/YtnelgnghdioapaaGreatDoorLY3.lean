/- What is run of FillLate, 3. -/
import Derived.Test.YtnelgnghdioapaaGreatDoorLY
import Derived.KernelRfl
namespace Go.Ev.YtnelgnghdioapaaGreatDoor
open Go Go.Ev
set_option maxRecDepth 100000
theorem h62:latQ (.int .i64 62) (.oth (.iv .i64 62 9223372036854775807))=true := by kernel_rfl
theorem l62_0:latQ (.int .i64 62) (.oth (.iv .i64 0 49))=true := by kernel_rfl
theorem l62_50:latQ (.int .i64 62) (.oth (.iv .i64 50 61))=true := by kernel_rfl
theorem h63:latQ (.int .i64 63) (.oth (.iv .i64 63 9223372036854775807))=true := by kernel_rfl
theorem l63_0:latQ (.int .i64 63) (.oth (.iv .i64 0 49))=true := by kernel_rfl
theorem l63_50:latQ (.int .i64 63) (.oth (.iv .i64 50 62))=true := by kernel_rfl
theorem h64:latQ (.int .i64 64) (.oth (.iv .i64 64 9223372036854775807))=true := by kernel_rfl
theorem l64_0:latQ (.int .i64 64) (.oth (.iv .i64 0 49))=true := by kernel_rfl
theorem l64_50:latQ (.int .i64 64) (.oth (.iv .i64 50 63))=true := by kernel_rfl
theorem h65:latQ (.int .i64 65) (.oth (.iv .i64 65 9223372036854775807))=true := by kernel_rfl
theorem l65_0:latQ (.int .i64 65) (.oth (.iv .i64 0 49))=true := by kernel_rfl
theorem l65_50:latQ (.int .i64 65) (.oth (.iv .i64 50 64))=true := by kernel_rfl
theorem h66:latQ (.int .i64 66) (.oth (.iv .i64 66 9223372036854775807))=true := by kernel_rfl
theorem l66_0:latQ (.int .i64 66) (.oth (.iv .i64 0 49))=true := by kernel_rfl
theorem l66_50:latQ (.int .i64 66) (.oth (.iv .i64 50 65))=true := by kernel_rfl
theorem h67:latQ (.int .i64 67) (.oth (.iv .i64 67 9223372036854775807))=true := by kernel_rfl
theorem l67_0:latQ (.int .i64 67) (.oth (.iv .i64 0 49))=true := by kernel_rfl
theorem l67_50:latQ (.int .i64 67) (.oth (.iv .i64 50 66))=true := by kernel_rfl
theorem h68:latQ (.int .i64 68) (.oth (.iv .i64 68 9223372036854775807))=true := by kernel_rfl
theorem l68_0:latQ (.int .i64 68) (.oth (.iv .i64 0 49))=true := by kernel_rfl
theorem l68_50:latQ (.int .i64 68) (.oth (.iv .i64 50 67))=true := by kernel_rfl
theorem h69:latQ (.int .i64 69) (.oth (.iv .i64 69 9223372036854775807))=true := by kernel_rfl
theorem l69_0:latQ (.int .i64 69) (.oth (.iv .i64 0 49))=true := by kernel_rfl
theorem l69_50:latQ (.int .i64 69) (.oth (.iv .i64 50 68))=true := by kernel_rfl
theorem h70:latQ (.int .i64 70) (.oth (.iv .i64 70 9223372036854775807))=true := by kernel_rfl
theorem l70_0:latQ (.int .i64 70) (.oth (.iv .i64 0 49))=true := by kernel_rfl
theorem l70_50:latQ (.int .i64 70) (.oth (.iv .i64 50 69))=true := by kernel_rfl
theorem h71:latQ (.int .i64 71) (.oth (.iv .i64 71 9223372036854775807))=true := by kernel_rfl
theorem l71_0:latQ (.int .i64 71) (.oth (.iv .i64 0 49))=true := by kernel_rfl
theorem l71_50:latQ (.int .i64 71) (.oth (.iv .i64 50 70))=true := by kernel_rfl
theorem hi3 (n:Nat) (h1:62≤n) (h2:n<72):latQ (.int .i64 n) (.oth (.iv .i64 n 9223372036854775807))=true := by
  by_cases e62:n=62
  · subst e62; exact h62
  by_cases e63:n=63
  · subst e63; exact h63
  by_cases e64:n=64
  · subst e64; exact h64
  by_cases e65:n=65
  · subst e65; exact h65
  by_cases e66:n=66
  · subst e66; exact h66
  by_cases e67:n=67
  · subst e67; exact h67
  by_cases e68:n=68
  · subst e68; exact h68
  by_cases e69:n=69
  · subst e69; exact h69
  by_cases e70:n=70
  · subst e70; exact h70
  by_cases e71:n=71
  · subst e71; exact h71
  exact absurd h2 (by omega)
theorem late3 (n p:Nat) (h1:62≤n) (h2:n<72) (h:p<n):LatOK n p := by
  by_cases e62:n=62
  · subst e62
    by_cases c0:p<50
    · exact ⟨_, _, by omega, by omega, by decide, l62_0⟩
    exact ⟨_, _, by omega, by omega, by decide, l62_50⟩
  by_cases e63:n=63
  · subst e63
    by_cases c0:p<50
    · exact ⟨_, _, by omega, by omega, by decide, l63_0⟩
    exact ⟨_, _, by omega, by omega, by decide, l63_50⟩
  by_cases e64:n=64
  · subst e64
    by_cases c0:p<50
    · exact ⟨_, _, by omega, by omega, by decide, l64_0⟩
    exact ⟨_, _, by omega, by omega, by decide, l64_50⟩
  by_cases e65:n=65
  · subst e65
    by_cases c0:p<50
    · exact ⟨_, _, by omega, by omega, by decide, l65_0⟩
    exact ⟨_, _, by omega, by omega, by decide, l65_50⟩
  by_cases e66:n=66
  · subst e66
    by_cases c0:p<50
    · exact ⟨_, _, by omega, by omega, by decide, l66_0⟩
    exact ⟨_, _, by omega, by omega, by decide, l66_50⟩
  by_cases e67:n=67
  · subst e67
    by_cases c0:p<50
    · exact ⟨_, _, by omega, by omega, by decide, l67_0⟩
    exact ⟨_, _, by omega, by omega, by decide, l67_50⟩
  by_cases e68:n=68
  · subst e68
    by_cases c0:p<50
    · exact ⟨_, _, by omega, by omega, by decide, l68_0⟩
    exact ⟨_, _, by omega, by omega, by decide, l68_50⟩
  by_cases e69:n=69
  · subst e69
    by_cases c0:p<50
    · exact ⟨_, _, by omega, by omega, by decide, l69_0⟩
    exact ⟨_, _, by omega, by omega, by decide, l69_50⟩
  by_cases e70:n=70
  · subst e70
    by_cases c0:p<50
    · exact ⟨_, _, by omega, by omega, by decide, l70_0⟩
    exact ⟨_, _, by omega, by omega, by decide, l70_50⟩
  by_cases e71:n=71
  · subst e71
    by_cases c0:p<50
    · exact ⟨_, _, by omega, by omega, by decide, l71_0⟩
    exact ⟨_, _, by omega, by omega, by decide, l71_50⟩
  exact absurd h2 (by omega)
end Go.Ev.YtnelgnghdioapaaGreatDoor
