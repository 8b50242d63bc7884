/- What stillroomtop.small computes: of a number and a greater one than 0, the first one's remainder, never below 0. Conditions: those of SmallFn. -/
import Derived.Test.YtijkeeoabcoidaaGreatDoorOEv5
import Derived.Test.YtijkeeoabcoidaaGreatDoorProg
import Derived.WalkKit
import Derived.KernelRfl
namespace Go.Ev.YtijkeeoabcoidaaGreatDoor
open Go Go.Ev Go.RowKit
set_option linter.unusedVariables false
theorem small_neg (x k:Int) (w:World) (h1 : -9223372036854775808≤x) (h2:x<9223372036854775808) (h3:0<k) (h4:k≤1000000) (h5:x.tmod k<0) :
    Calls Go.Proofs.Tryz.prog 7 #[.int .i64 x, .int .i64 k] w fun e w' => e = .returned (.int .i64 (wrap64 (-(x.tmod k))))∧w'=w := by
  have hk:¬ k=0 := by omega
  go_enter Go.Proofs.Tryz.func7, Go.Proofs.Tryz.ntmps7
  go_wp2
  go_ret
  exact ⟨rfl, rfl⟩
theorem small_pos (x k:Int) (w:World) (h1 : -9223372036854775808≤x) (h2:x<9223372036854775808) (h3:0<k) (h4:k≤1000000) (h5:¬ x.tmod k<0) :
    Calls Go.Proofs.Tryz.prog 7 #[.int .i64 x, .int .i64 k] w fun e w' => e = .returned (.int .i64 (x.tmod k))∧w'=w := by
  have hk:¬ k=0 := by omega
  go_enter Go.Proofs.Tryz.func7, Go.Proofs.Tryz.ntmps7
  go_wp2
  go_ret
  exact ⟨rfl, rfl⟩
theorem small_fn:QV Go.Proofs.Tryz.prog 7 := by
  intro x k w h1 h2 h3 h4
  have e:(x.tmod k).natAbs=x.natAbs % k.toNat := by
    rw [Int.natAbs_tmod]
    congr 1; omega
  by_cases h5:x.tmod k<0
  · refine (small_neg x k w h1 h2 h3 h4 h5).mono fun e' w' ⟨he, hw⟩ => ⟨?_, hw⟩
    have hlt:(x.tmod k).natAbs<k.toNat := by rw [e]; exact Nat.mod_lt _ (by omega)
    rw [he, ←e]; congr 2; unfold wrap64; omega
  · refine (small_pos x k w h1 h2 h3 h4 h5).mono fun e' w' ⟨he, hw⟩ => ⟨?_, hw⟩
    rw [he, ←e]; congr 2; omega
end Go.Ev.YtijkeeoabcoidaaGreatDoor
