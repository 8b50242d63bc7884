/- What is run of FillLate, 1. -/
import Derived.Test.YtnelgnghdioapaaGreatDoorLY
import Derived.KernelRfl
namespace Go.Ev.YtnelgnghdioapaaGreatDoor
open Go Go.Ev
set_option maxRecDepth 100000
theorem h35:latQ (.int .i64 35) (.oth (.iv .i64 35 9223372036854775807))=true := by kernel_rfl
theorem l35_0:latQ (.int .i64 35) (.oth (.iv .i64 0 34))=true := by kernel_rfl
theorem h36:latQ (.int .i64 36) (.oth (.iv .i64 36 9223372036854775807))=true := by kernel_rfl
theorem l36_0:latQ (.int .i64 36) (.oth (.iv .i64 0 35))=true := by kernel_rfl
theorem h37:latQ (.int .i64 37) (.oth (.iv .i64 37 9223372036854775807))=true := by kernel_rfl
theorem l37_0:latQ (.int .i64 37) (.oth (.iv .i64 0 36))=true := by kernel_rfl
theorem h38:latQ (.int .i64 38) (.oth (.iv .i64 38 9223372036854775807))=true := by kernel_rfl
theorem l38_0:latQ (.int .i64 38) (.oth (.iv .i64 0 37))=true := by kernel_rfl
theorem h39:latQ (.int .i64 39) (.oth (.iv .i64 39 9223372036854775807))=true := by kernel_rfl
theorem l39_0:latQ (.int .i64 39) (.oth (.iv .i64 0 38))=true := by kernel_rfl
theorem h40:latQ (.int .i64 40) (.oth (.iv .i64 40 9223372036854775807))=true := by kernel_rfl
theorem l40_0:latQ (.int .i64 40) (.oth (.iv .i64 0 39))=true := by kernel_rfl
theorem h41:latQ (.int .i64 41) (.oth (.iv .i64 41 9223372036854775807))=true := by kernel_rfl
theorem l41_0:latQ (.int .i64 41) (.oth (.iv .i64 0 40))=true := by kernel_rfl
theorem h42:latQ (.int .i64 42) (.oth (.iv .i64 42 9223372036854775807))=true := by kernel_rfl
theorem l42_0:latQ (.int .i64 42) (.oth (.iv .i64 0 41))=true := by kernel_rfl
theorem h43:latQ (.int .i64 43) (.oth (.iv .i64 43 9223372036854775807))=true := by kernel_rfl
theorem l43_0:latQ (.int .i64 43) (.oth (.iv .i64 0 42))=true := by kernel_rfl
theorem h44:latQ (.int .i64 44) (.oth (.iv .i64 44 9223372036854775807))=true := by kernel_rfl
theorem l44_0:latQ (.int .i64 44) (.oth (.iv .i64 0 43))=true := by kernel_rfl
theorem h45:latQ (.int .i64 45) (.oth (.iv .i64 45 9223372036854775807))=true := by kernel_rfl
theorem l45_0:latQ (.int .i64 45) (.oth (.iv .i64 0 44))=true := by kernel_rfl
theorem h46:latQ (.int .i64 46) (.oth (.iv .i64 46 9223372036854775807))=true := by kernel_rfl
theorem l46_0:latQ (.int .i64 46) (.oth (.iv .i64 0 45))=true := by kernel_rfl
theorem h47:latQ (.int .i64 47) (.oth (.iv .i64 47 9223372036854775807))=true := by kernel_rfl
theorem l47_0:latQ (.int .i64 47) (.oth (.iv .i64 0 46))=true := by kernel_rfl
theorem h48:latQ (.int .i64 48) (.oth (.iv .i64 48 9223372036854775807))=true := by kernel_rfl
theorem l48_0:latQ (.int .i64 48) (.oth (.iv .i64 0 47))=true := by kernel_rfl
theorem h49:latQ (.int .i64 49) (.oth (.iv .i64 49 9223372036854775807))=true := by kernel_rfl
theorem l49_0:latQ (.int .i64 49) (.oth (.iv .i64 0 48))=true := by kernel_rfl
theorem hi1 (n:Nat) (h1:35≤n) (h2:n<50):latQ (.int .i64 n) (.oth (.iv .i64 n 9223372036854775807))=true := by
  by_cases e35:n=35
  · subst e35; exact h35
  by_cases e36:n=36
  · subst e36; exact h36
  by_cases e37:n=37
  · subst e37; exact h37
  by_cases e38:n=38
  · subst e38; exact h38
  by_cases e39:n=39
  · subst e39; exact h39
  by_cases e40:n=40
  · subst e40; exact h40
  by_cases e41:n=41
  · subst e41; exact h41
  by_cases e42:n=42
  · subst e42; exact h42
  by_cases e43:n=43
  · subst e43; exact h43
  by_cases e44:n=44
  · subst e44; exact h44
  by_cases e45:n=45
  · subst e45; exact h45
  by_cases e46:n=46
  · subst e46; exact h46
  by_cases e47:n=47
  · subst e47; exact h47
  by_cases e48:n=48
  · subst e48; exact h48
  by_cases e49:n=49
  · subst e49; exact h49
  exact absurd h2 (by omega)
theorem late1 (n p:Nat) (h1:35≤n) (h2:n<50) (h:p<n):LatOK n p := by
  by_cases e35:n=35
  · subst e35
    exact ⟨_, _, by omega, by omega, by decide, l35_0⟩
  by_cases e36:n=36
  · subst e36
    exact ⟨_, _, by omega, by omega, by decide, l36_0⟩
  by_cases e37:n=37
  · subst e37
    exact ⟨_, _, by omega, by omega, by decide, l37_0⟩
  by_cases e38:n=38
  · subst e38
    exact ⟨_, _, by omega, by omega, by decide, l38_0⟩
  by_cases e39:n=39
  · subst e39
    exact ⟨_, _, by omega, by omega, by decide, l39_0⟩
  by_cases e40:n=40
  · subst e40
    exact ⟨_, _, by omega, by omega, by decide, l40_0⟩
  by_cases e41:n=41
  · subst e41
    exact ⟨_, _, by omega, by omega, by decide, l41_0⟩
  by_cases e42:n=42
  · subst e42
    exact ⟨_, _, by omega, by omega, by decide, l42_0⟩
  by_cases e43:n=43
  · subst e43
    exact ⟨_, _, by omega, by omega, by decide, l43_0⟩
  by_cases e44:n=44
  · subst e44
    exact ⟨_, _, by omega, by omega, by decide, l44_0⟩
  by_cases e45:n=45
  · subst e45
    exact ⟨_, _, by omega, by omega, by decide, l45_0⟩
  by_cases e46:n=46
  · subst e46
    exact ⟨_, _, by omega, by omega, by decide, l46_0⟩
  by_cases e47:n=47
  · subst e47
    exact ⟨_, _, by omega, by omega, by decide, l47_0⟩
  by_cases e48:n=48
  · subst e48
    exact ⟨_, _, by omega, by omega, by decide, l48_0⟩
  by_cases e49:n=49
  · subst e49
    exact ⟨_, _, by omega, by omega, by decide, l49_0⟩
  exact absurd h2 (by omega)
end Go.Ev.YtnelgnghdioapaaGreatDoor
