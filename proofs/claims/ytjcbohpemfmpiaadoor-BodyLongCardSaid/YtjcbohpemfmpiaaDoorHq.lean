/- The document's reading of chunks, walked. -/
import Derived.Test.YtjcbohpemfmpiaaDoorHp
namespace Go.Proofs.YtjcbohpemfmpiaaDoor.bodyLong
set_option linter.unusedVariables false
set_option linter.unusedSimpArgs false
open Go.ChangeShapes Go.WideShapes Go.ChangeAt Go.RowKit Go.Hl Go.Hg headLong
theorem hexa_r (d : Nat) (h : d < 16) (w : World) : Calls Tryd.prog 34 #[.int .u8 ((hx d).toNat : Int)] w fun e w' => e = .returned (.int .i64 d) ∧ w = w' := by
  rw [hx_nat h]
  by_cases h1 : d < 10
  · rw [if_pos h1]
    have q1 : decide ((48 : Int) ≤ ((48 + d : Nat) : Int)) = true := by simp; omega
    have q2 : decide (((48 + d : Nat) : Int) ≤ 57) = true := by simp; omega
    have LD : ∀ y, Calls Tryd.prog 50 #[.int .u8 ((48 + d : Nat) : Int)] y fun e w' => e = .returned (.bool true) ∧ y = w' := fun y => by
      go_enter Tryd.func50, Tryd.ntmps50
      go_wp2_with fail
      go_ret
      exact ⟨by simp; omega, rfl⟩
    go_enter Tryd.func34, Tryd.ntmps34
    go_wp2_with (first | (go_at_call 50; refine (LD _).mono ?_; rintro e w2 ⟨rfl, rfl⟩) | fail)
    go_ret
    exact ⟨congrArg (fun z => Ending.returned (Value.int .i64 z)) (show (48 + (d : Int) - 48) = (d : Int) by omega), rfl⟩
  · rw [if_neg h1]
    have q3 : decide ((97 : Int) ≤ ((87 + d : Nat) : Int)) = true := by simp; omega
    have q4 : decide (((87 + d : Nat) : Int) ≤ 102) = true := by simp; omega
    have LD : ∀ y, Calls Tryd.prog 50 #[.int .u8 ((87 + d : Nat) : Int)] y fun e w' => e = .returned (.bool false) ∧ y = w' := fun y => by
      have q1 : decide ((48 : Int) ≤ ((87 + d : Nat) : Int)) = true := by simp; omega
      go_enter Tryd.func50, Tryd.ntmps50
      go_wp2_with fail
      go_ret
      exact ⟨by simp; omega, rfl⟩
    go_enter Tryd.func34, Tryd.ntmps34
    go_wp2_with (first | (go_at_call 50; refine (LD _).mono ?_; rintro e w2 ⟨rfl, rfl⟩) | fail)
    go_ret
    exact ⟨congrArg (fun z => Ending.returned (Value.int .i64 z)) (show (87 + (d : Int) - 97 + 10) = (d : Int) by omega), rfl⟩
theorem hexa_rcr (w : World) : Calls Tryd.prog 34 #[.int .u8 13] w fun e w' => e = .returned (.int .i64 16) ∧ w = w' := by
  have LD : ∀ y, Calls Tryd.prog 50 #[.int .u8 13] y fun e w' => e = .returned (.bool false) ∧ y = w' := fun y => by
    go_enter Tryd.func50, Tryd.ntmps50
    go_wp2_with fail
    go_ret
    exact ⟨rfl, rfl⟩
  go_enter Tryd.func34, Tryd.ntmps34
  go_wp2_with (first | (go_at_call 50; refine (LD _).mono ?_; rintro e w2 ⟨rfl, rfl⟩) | fail)
  go_ret
  exact ⟨rfl, rfl⟩
end Go.Proofs.YtjcbohpemfmpiaaDoor.bodyLong
