/- Chunks told, walked. -/
import Derived.Test.YtjcbohpemfmpiaaDoorHs
namespace Go.Proofs.YtjcbohpemfmpiaaDoor.bodyLong
set_option linter.unusedVariables false
set_option linter.unusedSimpArgs false
open Go.ChangeShapes Go.WideShapes Go.ChangeAt Go.RowKit Go.Hl Go.Hg headLong
set_option maxRecDepth 100000 in
set_option maxHeartbeats 1600000 in
theorem tells_b (bs : List UInt8) (cs : List (List Nat × List UInt8)) (bb cap : Nat) (w : World) (hH : HoldsB w bb 0 bs) (hC : Chunked bs 0 cs) (hb : bb < w.heap.size) (hc : bs.length ≤ cap) (hl : bs.length ≤ 20000) :
    Calls Tryd.prog 16 #[.agg #[.bool true, .int .i64 0], .slice (some ⟨bb, 0, none⟩) bs.length cap] w fun e w' => e = .returned (.bool true) ∧ Below w.heap.size w w' := by
  have L1 := fun (y : World) (h : Below w.heap.size w y) => read_ bs cs bb cap y (hH.below h hb) hC (Nat.lt_of_lt_of_le hb h.size) hc hl
  have L2 := fun (y : World) (h : Below w.heap.size w y) => body_r bs cs bb cap y (hH.below h hb) hC (Nat.lt_of_lt_of_le hb h.size) hc hl
  have hB0 : Below w.heap.size w (w.alloc (Obj.cells #[Value.bool true, Value.int IntKind.i64 0] 36)) := (Below.refl _ w).alloc (Nat.le_refl _) _
  have hA := heap_alloc_new w (Obj.cells #[Value.bool true, Value.int IntKind.i64 0] 36)
  have T1 := L1 _ hB0
  clear L1 hH hC
  have B0 := Lib.hid hB0
  have HA := Lib.hid hA
  clear hA hB0
  unfold BOut at T1 L2
  cases ho : outC [] cs with
  | none =>
    rw [ho] at T1 L2
    dsimp only at T1 L2
    clear ho
    go_enter Tryd.func16, Tryd.ntmps16
    go_wp2_with fail
    refine T1.mono ?_
    rintro e w2 ⟨rfl, hb2⟩
    have q := (hb2.block w.heap.size (by simp)).trans HA.out
    have c0 : w2.cell? ⟨w.heap.size, 0, none⟩ = some (.bool true) := by rw [blk_cell q]; rfl
    have c1 : w2.cell? ⟨w.heap.size, 1, none⟩ = some (.int .i64 0) := by rw [blk_cell q]; rfl
    have I2 := Lib.hid (B0.out.trans (hb2.mono B0.out.size))
    clear q hb2 T1
    go_wp2_with fail
    refine (L2 _ I2.out).mono ?_
    rintro e w3 ⟨rfl, hb3⟩
    have I3 := Lib.hid (I2.out.trans (hb3.mono I2.out.size))
    clear hb3 L2
    go_wp2_with fail
    go_ret
    exact ⟨rfl, I3.out⟩
  | some t =>
    rw [ho] at T1 L2
    dsimp only at T1 L2
    clear ho
    go_enter Tryd.func16, Tryd.ntmps16
    go_wp2_with fail
    refine T1.mono ?_
    rintro e w2 ⟨rfl, hb2⟩
    have q := (hb2.block w.heap.size (by simp)).trans HA.out
    have c0 : w2.cell? ⟨w.heap.size, 0, none⟩ = some (.bool true) := by rw [blk_cell q]; rfl
    have c1 : w2.cell? ⟨w.heap.size, 1, none⟩ = some (.int .i64 0) := by rw [blk_cell q]; rfl
    have I2 := Lib.hid (B0.out.trans (hb2.mono B0.out.size))
    clear q hb2 T1
    go_wp2_with fail
    refine (L2 _ I2.out).mono ?_
    rintro e w3 ⟨rfl, hb3⟩
    have I3 := Lib.hid (I2.out.trans (hb3.mono I2.out.size))
    clear hb3 L2
    go_wp2_with fail
    go_ret
    exact ⟨rfl, I3.out⟩
end Go.Proofs.YtjcbohpemfmpiaaDoor.bodyLong
