/- A line's end, as the document reads it, walked. -/
import Derived.Test.YtjcbohpemfmpiaaDoorHq
namespace Go.Proofs.YtjcbohpemfmpiaaDoor.bodyLong
set_option linter.unusedVariables false
set_option linter.unusedSimpArgs false
open Go.ChangeShapes Go.WideShapes Go.ChangeAt Go.RowKit Go.Hl Go.Hg headLong
attribute [local go_sem ↓] Go.wp_at_zero Go.wp_at_succ
theorem byte_of {w : World} {bb : Nat} {bs : List UInt8} (h : HoldsB w bb 0 bs) {j : Nat} {c : UInt8} (hj : j < bs.length) (hc : at0 bs j = c) : w.cell? ⟨bb, j, none⟩ = some (.int .u8 (c.toNat : Int)) := by
  have := h j hj
  rw [hc, Nat.zero_add] at this
  exact this
theorem wrap_small (n : Nat) (h : n < 2 ^ 63) : IntKind.i64.wrap (n : Int) = (n : Int) := by
  have e3 : ((n : Int) % (2 ^ IntKind.i64.bits : Int)) = (n : Int) := Int.emod_eq_of_lt (by omega) (by show _ < (2 : Int) ^ 64; omega)
  unfold IntKind.wrap
  simp only [e3]
  rw [if_neg]
  have e4 : ¬ ((2 : Int) ^ 63 ≤ (n : Int)) := by omega
  intro h
  rw [Bool.and_eq_true] at h
  exact e4 (of_decide_eq_true h.2)
set_option maxRecDepth 8000 in
set_option maxHeartbeats 1600000 in
theorem end_r (bs : List UInt8) (bb cap p : Nat) (w : World) (hH : HoldsB w bb 0 bs) (hb : bb < w.heap.size) (hp : p + 2 ≤ bs.length) (hl : bs.length ≤ 20000) (h1 : at0 bs p = 13) (h2 : at0 bs (p + 1) = 10) :
    Calls Tryd.prog 35 #[.slice (some ⟨bb, 0, none⟩) bs.length cap, .int .i64 (p : Int)] w fun e w' => e = .returned (.int .i64 0) ∧ Below w.heap.size w w' := by
  have d1 : decide ((bs.length : Int) ≤ (p : Int)) = false := by simp; omega
  have d2 : decide ((bs.length : Int) ≤ (p : Int) + 1) = false := by simp; omega
  have l0 : (0 : Int) ≤ (p : Int) := by omega
  have l3 : (0 : Int) ≤ (p : Int) + 1 := by omega
  have l1 : (p : Int) < (bs.length : Int) := by omega
  have l2 : (p : Int) + 1 < (bs.length : Int) := by omega
  have n1 : ((p : Int) + 1).toNat = p + 1 := by omega
  have w0 : IntKind.i64.wrap (p : Int) = (p : Int) := wrap_small p (by omega)
  have w1 : IntKind.i64.wrap ((p : Int) + 1) = (p : Int) + 1 := wrap_small (p + 1) (by omega)
  have w2 : wrap64 ((p : Int) + 1) = (p : Int) + 1 := by unfold wrap64; omega
  have c1 := byte_of hH (by omega) h1
  have c2 := byte_of hH (by omega) h2
  have B0 := Lib.hid (Below.refl w.heap.size w)
  clear hH h1 h2
  go_enter Tryd.func35, Tryd.ntmps35
  go_wp2_with fail
  refine wp_loop_rounds 3 ?_
  rw [rounds_succ]
  go_wp2_with fail
  go_region_with (fail)
  all_goals go_wp2_with fail
  all_goals rw [rounds_succ]
  all_goals go_wp2_with fail
  all_goals go_region_with (fail)
  all_goals go_wp2_with fail
  all_goals rw [rounds_succ]
  all_goals go_wp2_with fail
  all_goals go_ret
  all_goals refine ⟨rfl, ?_⟩
  all_goals (repeat first | exact Below.refl _ _ | refine Below.drew ?_ | refine Below.alloc ?_ (by simp; try omega) _)
end Go.Proofs.YtjcbohpemfmpiaaDoor.bodyLong
