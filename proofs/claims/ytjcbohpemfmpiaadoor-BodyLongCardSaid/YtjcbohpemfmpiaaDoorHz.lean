/- math/bits.TrailingZeros of sixteen, walked. -/
import Derived.Test.YtjcbohpemfmpiaaDoorEv4
import Derived.Test.YtjcbohpemfmpiaaDoorProg
import Derived.WalkKit
import Derived.ProofKit
import Derived.KernelRfl
namespace Go.Proofs.YtjcbohpemfmpiaaDoor.bodyLong
set_option linter.unusedVariables false
set_option linter.unusedSimpArgs false
open Go.ChangeShapes Go.WideShapes Go.ChangeAt Go.RowKit
theorem tz64 (w : World) (hc : w.cell? ⟨3, 15, none⟩ = some (.int .u8 4)) : Calls Tryd.prog 71 #[.int .u64 16] w fun e w' => e = .returned (.int .i64 4) ∧ w' = w := by
  have e1 : bits BinOp.and IntKind.u64 16 (IntKind.u64.wrap (-16)) = 16 := by decide +kernel
  have e2 : IntKind.u64.wrap (16 * 285870213051353865) / 288230376151711744 = 15 := by decide +kernel
  go_enter Tryd.func71, Tryd.ntmps71
  go_wp2_with fail
  go_ret
  exact ⟨rfl, rfl⟩
theorem tz_ (w : World) (hc : w.cell? ⟨3, 15, none⟩ = some (.int .u8 4)) : Calls Tryd.prog 63 #[.int .u64 16] w fun e w' => e = .returned (.int .i64 4) ∧ w' = w := by
  go_enter Tryd.func63, Tryd.ntmps63
  go_wp2_with (first | (go_at_call 71; refine (tz64 _ hc).mono ?_; rintro e w2 ⟨rfl, rfl⟩) | fail)
  go_ret
  exact ⟨rfl, rfl⟩
theorem g64 : Tryd.prog.globalNamed "math/bits.deBruijn64tab" = some 3 := by kernel_rfl
theorem tz_cell {w : World} (h : Lib.TabIs Tryd.prog w "math/bits.deBruijn64tab" .u8 Go.Ev.tz64Tab) : w.cell? ⟨3, 15, none⟩ = some (.int .u8 4) := by
  unfold Lib.TabIs World.var? at h
  rw [g64, Option.bind_some] at h
  split at h
  · rename_i c e fr hw
    cases h
    simp only [World.cell?, hw]
    rfl
  · cases h
theorem tzFn : Go.Ev.TzFn Tryd.prog 63 := fun w h => tz_ w (tz_cell h)
end Go.Proofs.YtjcbohpemfmpiaaDoor.bodyLong
