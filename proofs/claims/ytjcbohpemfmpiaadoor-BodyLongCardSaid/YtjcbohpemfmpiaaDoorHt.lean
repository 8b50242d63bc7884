/- Numbers by sixteen, plain. -/
import Derived.Test.YtjcbohpemfmpiaaDoorHo
namespace Go.Proofs.YtjcbohpemfmpiaaDoor.bodyLong
set_option linter.unusedVariables false
set_option linter.unusedSimpArgs false
/-- The digits of a number under 65536. -/
def hexD (n : Nat) : List Nat := if n < 16 then [n] else if n < 256 then [n / 16, n % 16] else if n < 4096 then [n / 256, n / 16 % 16, n % 16] else [n / 4096, n / 256 % 16, n / 16 % 16, n % 16]
theorem hexD_val (n : Nat) (h : n < 65536) : hval (hexD n) 0 = n := by
  unfold hexD
  split
  · show 0 * 16 + n = n; omega
  · split
    · show (0 * 16 + n / 16) * 16 + n % 16 = n; omega
    · split
      · show ((0 * 16 + n / 256) * 16 + n / 16 % 16) * 16 + n % 16 = n; omega
      · show (((0 * 16 + n / 4096) * 16 + n / 256 % 16) * 16 + n / 16 % 16) * 16 + n % 16 = n; omega
theorem hexD_lt (n : Nat) (h : n < 65536) : ∀ d ∈ hexD n, d < 16 := by
  unfold hexD
  split
  · intro d hd; simp at hd; omega
  · split
    · intro d hd; simp at hd; omega
    · split
      · intro d hd; simp at hd; omega
      · intro d hd; simp at hd; omega
theorem hexD_len (n : Nat) : 0 < (hexD n).length ∧ (hexD n).length ≤ 8 := by
  unfold hexD
  split
  · simp
  · split
    · simp
    · split <;> simp
end Go.Proofs.YtjcbohpemfmpiaaDoor.bodyLong
